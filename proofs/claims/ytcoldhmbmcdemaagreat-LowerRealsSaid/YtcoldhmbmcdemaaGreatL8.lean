/- Long numbers: the printed functions of the reference that reckon with reals always answer (over a framework with T64=1). -/
import Derived.Test.YtcoldhmbmcdemaaGreatL7
set_option linter.unusedVariables false
set_option linter.unusedSimpArgs false
set_option linter.unusedSectionVars false
namespace Go.Proofs.YtcoldhmbmcdemaaGreat.Lg
open Go Go.Proofs.YtcoldhmbmcdemaaGreat.Ev Go.Proofs.YtcoldhmbmcdemaaGreat.Sx
noncomputable section
theorem nd_mul (a b : Nat) : nd (a * b) ≤ nd a + nd b := nd_le.2 (by rw [Nat.pow_add]; exact Nat.mul_lt_mul'' (lt_nd a) (lt_nd b))
theorem times_loop {h0 : HP} {va vb : AV} {a b : Nat} (xa : IsN h0 va a) (xb : IsN h0 vb b) (hb : nd a ≤ 400 ∧ nd b ≤ 400) (n M : Nat) (hn : 20000 < n) : ∀ j m h v, j < m → j ≤ nd b → Wf h → Le h0 h → IsN h v (a * (b / 65536 ^ j)) →
    (∀ c n, v = .slice c 0 n (.spare 1) → (HP.nxQ h0).toNat ≤ c.toNat) → RetN (nrec (fun _ _ _ _ _ => none) (fun _ g => S40_1b (SF tabS (n + 3)) M g) m va vb v (Int.ofNat j - Int.ofNat 1) h) h0 (a * b) := by
  intro j
  induction j with
  | zero =>
    intro m h v h1 h2 w le x new
    obtain ⟨m, rfl⟩ : ∃ k, m = k + 1 := ⟨m - 1, by omega⟩
    show RetN (S40_1b (SF tabS (n + 3)) M (nrec (fun _ _ _ _ _ => none) (fun _ g => S40_1b (SF tabS (n + 3)) M g) m) va vb v (Int.ofNat 0 - Int.ofNat 1) h) h0 (a * b)
    unfold S40_1b
    rw [le_dec, decide_eq_false (by decide), br_f]
    rw [Nat.pow_zero, Nat.div_one] at x
    exact ⟨v, h, rfl, w, le, x, new⟩
  | succ j ih =>
    intro m h v h1 h2 w le x new
    obtain ⟨m, rfl⟩ : ∃ k, m = k + 1 := ⟨m - 1, by omega⟩
    show RetN (S40_1b (SF tabS (n + 3)) M (nrec (fun _ _ _ _ _ => none) (fun _ g => S40_1b (SF tabS (n + 3)) M g) m) va vb v (Int.ofNat (j + 1) - Int.ofNat 1) h) h0 (a * b)
    have ih := fun h v => ih m h v (by omega) (by omega)
    generalize nrec (fun _ _ _ _ _ => none) (fun _ g => S40_1b (SF tabS (n + 3)) M g) m = G at ih ⊢
    rw [sub_nat (a := j + 1) (b := 1) (by omega)]
    show RetN (S40_1b (SF tabS (n + 3)) M G va vb v (Int.ofNat j) h) h0 (a * b)
    unfold S40_1b
    rw [le_dec, decide_eq_true (show Int.ofNat 0 ≤ Int.ofNat j from Int.ofNat_le.2 (Nat.zero_le _)), br_t]
    have ya := xa.mono le
    have yb := xb.mono le
    obtain ⟨p, q1, _, q2⟩ := load_of yb j (by rw [digs_length]; omega)
    have hnd : ∀ k, nd (a * (b / 65536 ^ k)) ≤ 800 := fun k => Nat.le_trans (nd_mono (Nat.mul_le_mul_left _ (Nat.div_le_self _ _))) (Nat.le_trans (nd_mul a b) (by omega))
    rw [q1, (q2 h (Le.refl h)).1]
    obtain ⟨v2, h2', e2, w2, le2, x2, new2⟩ := sf_twice w x (q := 16) (by have := hnd (j + 1); omega) (by omega) n (by have := hnd (j + 1); omega)
    rw [cal_of e2, again40 (q2 h2' le2).2.2, br_t, digs_getD]
    have dl := dig_lt b j
    obtain ⟨v3, h3, e3, w3, le3, x3, new3⟩ := sf_small w2 (ya.mono le2) (q := dig b j) (by omega) (by omega) (n + 1) (by omega)
    rw [cal_of e3]
    have n1 : nd (a * (b / 65536 ^ (j + 1)) * 2 ^ 16) ≤ 1000 := Nat.le_trans (nd_two _ _) (by have := hnd (j + 1); omega)
    have n3 : nd (dig b j) ≤ 1 := nd_le.2 (by rw [Nat.pow_one]; exact dl)
    have n2 : nd (a * dig b j) ≤ 1000 := Nat.le_trans (nd_mul _ _) (by omega)
    obtain ⟨v4, h4, e4, w4, le4, x4, new4⟩ := sf_plus w3 (x2.mono le3) x3 ⟨by omega, by omega⟩ (n + 1) (by omega)
    rw [cal_of e4]
    have ee : wrQ .i64 (Int.ofNat j - Int.ofNat 1) = Int.ofNat j - Int.ofNat 1 := wr_id (by show _ ≤ (j : Int) - 1; omega) (by show (j : Int) - 1 ≤ _; omega)
    simp only [ee]
    refine ih h4 v4 w4 (le.trans (le2.trans (le3.trans le4))) ?_ (fun c k e => ?_)
    · have : a * (b / 65536 ^ (j + 1)) * 2 ^ 16 + a * dig b j = a * (b / 65536 ^ j) := by
        rw [div_dig b j, Nat.mul_add, Nat.mul_assoc]
        congr 2
        exact Nat.mul_comm _ _
      rw [this] at x4; exact x4
    · exact Nat.le_trans (le.trans (le2.trans le3)).1 (new4 c k e)
theorem sf_times {h : HP} (w : Wf h) {va vb : AV} {a b : Nat} (xa : IsN h va a) (xb : IsN h vb b) (hb : nd a ≤ 400 ∧ nd b ≤ 400) (n : Nat) (hn : 20000 < n) : RetN (SF tabS (n + 4) 40 [va, vb] h .no) h (a * b) := by
  rw [SF_succ, find40, enter40]
  unfold S40_2 S40_1
  rw [lenN xb, asI_iv, wr_id (z := Int.ofNat (nd b) - Int.ofNat 1) (by show _ ≤ (nd b : Int) - 1; omega) (by show (nd b : Int) - 1 ≤ _; omega)]
  refine times_loop xa xb hb n (n + 3) hn (nd b) (n + 3) h .nils (by omega) (Nat.le_refl _) w (Le.refl h) ?_ (fun _ _ e => nomatch e)
  rw [Nat.div_eq_of_lt (lt_nd b), Nat.mul_zero]
  exact .inl ⟨rfl, rfl⟩
/- The parts of a word. -/
def sN (a : Nat) : Nat := a / 9223372036854775808
def eN (a : Nat) : Nat := a / 4503599627370496 % 2048
def rN (a : Nat) : Nat := a % 4503599627370496
def isN (a : Nat) : Bool := decide (eN a = 2047) && !decide (rN a = 0)
def mN (a : Nat) : Nat := if eN a = 0 then rN a else rN a + 4503599627370496
def pN (a : Nat) : Int := if eN a = 0 then -1074 else (eN a : Int) - 1075
theorem beq_dec (a b : Nat) : Nat.beq a b = decide (a = b) := by
  rw [Bool.eq_iff_iff, Nat.beq_eq, decide_eq_true_iff]
theorem bu_eql (a b : Nat) (k : AV → Res2) : binC .eql (uv a) (uv b) k = k (vB (decide (a = b))) := by
  have e : binC .eql (uv a) (uv b) k = k (vB (Nat.beq a b)) := by kernel_rfl
  rw [e, beq_dec]
theorem bu_lss (a b : Nat) (k : AV → Res2) : binC .lss (uv a) (uv b) k = k (vB (decide (a < b))) := by
  have e : binC .lss (uv a) (uv b) k = k (vB (Nat.ble (a + 1) b)) := by kernel_rfl
  rw [e]; congr 2; rw [Bool.eq_iff_iff, Nat.ble_eq, decide_eq_true_iff]; rfl
theorem bu_gtr (a b : Nat) (k : AV → Res2) : binC .gtr (uv a) (uv b) k = k (vB (decide (b < a))) := by
  have e : binC .gtr (uv a) (uv b) k = k (vB (Nat.ble (b + 1) a)) := by kernel_rfl
  rw [e]; congr 2; rw [Bool.eq_iff_iff, Nat.ble_eq, decide_eq_true_iff]; rfl
theorem bv_eql (a b : Nat) (k : AV → Option AV) : binCV .eql (uv a) (uv b) k = k (vB (decide (a = b))) := by
  have e : binCV .eql (uv a) (uv b) k = k (vB (Nat.beq a b)) := by kernel_rfl
  rw [e, beq_dec]
theorem bv_neq (a b : Nat) (k : AV → Option AV) : binCV .neq (uv a) (uv b) k = k (vB (!decide (a = b))) := by
  have e : binCV .neq (uv a) (uv b) k = k (vB (!Nat.beq a b)) := by kernel_rfl
  rw [e, beq_dec]
theorem bu_quo {a b : Nat} (hb : 0 < b) (ha : a ≤ 18446744073709551615) (k : AV → Res2) : binC .quo (uv a) (uv b) k = k (uv (a / b)) := by
  obtain ⟨c, rfl⟩ : ∃ c, b = c + 1 := ⟨b - 1, by omega⟩
  have e : binC .quo (uv a) (uv (c + 1)) k = k (AV.int .u64 (wrapF .u64 (Int.ofNat (a / (c + 1))))) := by kernel_rfl
  rw [e, wu_nat (Nat.le_trans (Nat.div_le_self _ _) ha)]
theorem bu_rem {a b : Nat} (hb : 0 < b) (k : AV → Res2) : binC .rem (uv a) (uv b) k = k (uv (a % b)) := by
  obtain ⟨c, rfl⟩ : ∃ c, b = c + 1 := ⟨b - 1, by omega⟩
  kernel_rfl
theorem cv64 {a : Nat} (h : a ≤ 9223372036854775807) (F : Int → Res2) : obI .i64 (convV (.ii .i64) (uv a)) F = F (Int.ofNat a) := by
  have e : obI .i64 (convV (.ii .i64) (uv a)) F = F (wrapF .i64 (Int.ofNat a)) := by kernel_rfl
  rw [e, wf_nat h]
theorem asB_v (c : Bool) (F : Bool → Res2) : asB (vB c) F = F c := rfl
theorem asBV_v (c : Bool) (F : Bool → Option AV) : asBV (vB c) F = F c := rfl
theorem obB_s (c : Bool) (F : Bool → Res2) : obB (some (vB c)) F = F c := rfl
theorem obBV_s (c : Bool) (F : Bool → Option AV) : obBV (some (vB c)) F = F c := rfl
theorem brV_t (x y : Option AV) : brV true x y = x := rfl
theorem brV_f (x y : Option AV) : brV false x y = y := rfl
theorem not_dec (c : Bool) : notQ c = !c := notQ_eq c
theorem br_b (c : Bool) (x y : Res2) : br c x y = if c = true then x else y := by cases c <;> rfl
theorem or_V' {c : Bool} {X : Option AV} {d : Bool} (e : X = some (vB d)) (F : Bool → Res2) : obB (brV c X (some (vB false))) F = F (c && d) := by subst e; exact and_B c d F
theorem find34 : tabS.run 34 = S34 := by kernel_rfl
theorem find35 : tabS.run 35 = S35 := by kernel_rfl
theorem find37 : tabS.run 37 = S37 := by kernel_rfl
theorem find38 : tabS.run 38 = S38 := by kernel_rfl
theorem find36 : tabS.run 36 = S36 := by kernel_rfl
theorem find14 : tabS.run 14 = S14 := by kernel_rfl
theorem find16 : tabS.run 16 = S16 := by kernel_rfl
theorem enter34 (D : CallD) (m : Nat) (a : Int) (h : HP) : S34 D m [.int .u64 a] h .no = S34_0 D m a h := rfl
theorem enter35 (D : CallD) (m : Nat) (a : Int) (h : HP) : S35 D m [.int .u64 a] h .no = S35_0 D m a h := rfl
theorem enter37 (D : CallD) (m : Nat) (a b : Int) (h : HP) : S37 D m [.int .u64 a, .int .u64 b] h .no = S37_0 D m a b h := rfl
theorem enter38 (D : CallD) (m : Nat) (a : Int) (h : HP) : S38 D m [.int .u64 a] h .no = S38_0 D m a h := rfl
theorem enter36 (D : CallD) (m : Nat) (a b : Int) (h : HP) : S36 D m [.int .u64 a, .int .u64 b] h .no = S36_1 D m a b h := rfl
theorem enter14 (D : CallD) (m : Nat) (op a b : Int) (h : HP) : S14 D m [vI op, .int .u64 a, .int .u64 b] h .no = S14_6 D m op a b h := rfl
theorem enter16 (D : CallD) (m : Nat) (a : Int) (h : HP) : S16 D m [.int .u64 a] h .no = S16_0 D m a h := rfl
theorem sf_parts {a : Nat} (ha : a < 2 ^ 64) (n : Nat) (h : HP) : SF tabS (n + 1) 34 [uv a] h .no = some (.ret (.tup [uv (sN a), uv (eN a), uv (rN a)]) h, .no) := by
  have h1 : a ≤ 18446744073709551615 := by omega
  rw [SF_succ, find34, enter34]
  unfold S34_0
  rw [bu_quo (by decide) h1, asI_uv, bu_quo (by decide) h1, asI_uv, bu_rem (by decide), asI_uv, bu_rem (by decide), asI_uv]
  rfl
theorem parts_k {a : Nat} (ha : a < 2 ^ 64) (n : Nat) (h : HP) (F : Int → Int → Int → HP → Res2) :
    (cal (SF tabS (n + 1)) 34 [uv a] h fun t h' => extC t 0 fun x => asI .u64 x fun x => extC t 1 fun y => asI .u64 y fun y => extC t 2 fun z => asI .u64 z fun z => F x y z h') = F (Int.ofNat (sN a)) (Int.ofNat (eN a)) (Int.ofNat (rN a)) h := by
  rw [cal_of (sf_parts ha n h)]; rfl
theorem sf_isN {a : Nat} (ha : a < 2 ^ 64) (n : Nat) (h : HP) : SF tabS (n + 2) 35 [uv a] h .no = some (.ret (vB (isN a)) h, .no) := by
  rw [SF_succ, find35, enter35]
  unfold S35_0
  rw [parts_k ha, bu_eql, asB_v, or_V' (d := !decide (rN a = 0)) (by rw [bv_neq, asBV_v])]
  rfl
theorem sf_num {a : Nat} (ha : a < 2 ^ 64) (n : Nat) (h : HP) : SF tabS (n + 2) 38 [uv a] h .no = some (.ret (.tup [iv (mN a), vI (pN a)]) h, .no) := by
  rw [SF_succ, find38, enter38]
  unfold S38_0
  have h1 : rN a < 4503599627370496 := Nat.mod_lt _ (by omega)
  have h2 : eN a < 2048 := Nat.mod_lt _ (by omega)
  rw [parts_k ha, bu_eql, asB_v, br_if]
  unfold mN pN
  split
  · rename_i g
    rw [cv64 (by omega)]
    rfl
  · rename_i g
    rw [cv64 (a := rN a) (by omega)]
    simp only [add_nat]
    rw [wr_nat (by omega), cv64 (a := eN a) (by omega), wr_id (z := Int.ofNat (eN a) - Int.ofNat 1075) (by show _ ≤ (eN a : Int) - 1075; omega) (by show (eN a : Int) - 1075 ≤ _; omega)]
    rfl
theorem num_k {a : Nat} (ha : a < 2 ^ 64) (n : Nat) (h : HP) (F : Int → Int → HP → Res2) :
    (cal (SF tabS (n + 2)) 38 [uv a] h fun t h' => extC t 0 fun x => asI .i64 x fun x => extC t 1 fun y => asI .i64 y fun y => F x y h') = F (Int.ofNat (mN a)) (pN a) h := by
  rw [cal_of (sf_num ha n h)]; rfl
def sgN (s a : Nat) : Nat := if s = 1 then a + 9223372036854775808 else a
theorem sg_lt {s a : Nat} (h : a ≤ 9218868437227405312) : sgN s a < 2 ^ 64 := by unfold sgN; split <;> omega
theorem sf_signed' {s a : Nat} (ha : a ≤ 9218868437227405312) (n : Nat) (h : HP) : SF tabS (n + 1) 37 [uv s, uv a] h .no = some (.ret (uv (sgN s a)) h, .no) := by
  have h1 : a + 9223372036854775808 ≤ 18446744073709551615 := by omega
  rw [SF_succ, find37, enter37]
  unfold S37_0
  rw [bu_eql, asB_v, br_if, bu_add h1, asI_uv]
  unfold sgN
  split <;> rfl
def ngN (a : Nat) : Nat := if isN a = true then 9221120237041090560 else if sN a = 1 then a - 9223372036854775808 else a + 9223372036854775808
theorem ng_lt {b : Nat} (hb : b < 2 ^ 64) : ngN b < 2 ^ 64 := by
  unfold ngN
  have : sN b = b / 9223372036854775808 := rfl
  split
  · omega
  · split <;> omega
theorem sf_neg' {a : Nat} (ha : a < 2 ^ 64) (n : Nat) (h : HP) : SF tabS (n + 3) 16 [uv a] h .no = some (.ret (uv (ngN a)) h, .no) := by
  rw [SF_succ, find16, enter16]
  unfold S16_0
  rw [cal_of (sf_isN ha n h), asB_v, br_b]
  unfold ngN
  split
  · rfl
  · rw [parts_k ha, bu_eql, asB_v, br_if]
    have h1 : sN a = a / 9223372036854775808 := rfl
    split
    · rw [bu_sub (a := a) (b := 9223372036854775808) (by omega) (by omega), asI_uv]
    · have h2 : a + 9223372036854775808 ≤ 18446744073709551615 := by omega
      rw [bu_add h2, asI_uv]
/- What always answers. -/
def RetA (r : Res2) (h : HP) (v : AV) : Prop := ∃ h', r = some (.ret v h', .no) ∧ Wf h' ∧ Le h h'
def TotU (r : Res2) (h : HP) : Prop := ∃ k, k < 2 ^ 64 ∧ RetA r h (uv k)
def TotD (r : Res2) (h : HP) : Prop := ∃ k, k < 2 ^ 64 ∧ RetA r h (.tup [uv k, vB true])
theorem pk_le {i : Int} {r : Nat} (h1 : -1074 ≤ i) (h2 : r ≤ 2 ^ 53) (h3 : i = -1074 ∨ 2 ^ 52 ≤ r) : pk i r ≤ 9218868437227405312 := by
  obtain ⟨k, hk⟩ : ∃ k : Nat, i = (k : Int) - 1074 := ⟨(i + 1074).toNat, by omega⟩
  subst hk
  unfold pk pk1
  split
  · rename_i g
    subst g
    rw [if_neg (by omega)]
    split
    · exact Nat.le_refl _
    · rw [show ((k : Int) - 1074 + 1 + 1075).toNat = k + 2 by omega]; omega
  · split
    · omega
    · split
      · exact Nat.le_refl _
      · rw [show ((k : Int) - 1074 + 1075).toNat = k + 1 by omega]; omega
theorem R_le (x y : Nat) : x / y ≤ Rn x y ∧ Rn x y ≤ x / y + 1 := by unfold Rn; split <;> omega
theorem sf_nearT {h : HP} (w : Wf h) {va vb : AV} {a b : Nat} (xa : IsN h va a) (xb : IsN h vb b) (hb0 : b ≠ 0) {e : Int} (ha : nd a ≤ 400) (hb : nd b ≤ 400) (he : -6000 ≤ e ∧ e ≤ 6000) (n : Nat) (hn : 20000 < n) :
    ∃ k, k ≤ 9218868437227405312 ∧ RetA (SF tabS (n + 5) 39 [va, vb, vI e] h .no) h (uv k) := by
  by_cases a0 : a = 0
  · subst a0
    refine ⟨0, Nat.zero_le _, h, ?_, w, Le.refl h⟩
    rw [SF_succ, find39, enter39]
    unfold S39_7
    rw [lenN xa, asI_iv]
    rfl
  · obtain ⟨v, ⟨p1, p2, p3⟩, h', e1, w', le'⟩ := sf_near w xa xb a0 hb0 (e := e) ha hb he n hn
    have hR := R_le (Xn a v) (Yn b v)
    have hQ : Xn a v / Yn b v = Qn a b v := rfl
    exact ⟨_, pk_le p1 (by omega) (by omega), h', e1, w', le'⟩
theorem mN_lt (a : Nat) : mN a < 2 ^ 53 := by
  have : rN a < 4503599627370496 := Nat.mod_lt _ (by omega)
  unfold mN; split <;> omega
theorem pN_le (a : Nat) : -1074 ≤ pN a ∧ pN a ≤ 972 := by
  have : eN a < 2048 := Nat.mod_lt _ (by omega)
  unfold pN; split <;> omega
theorem two_le {a k : Nat} (h : a ≤ 16 * k) : 2 ^ a ≤ 65536 ^ k := by rw [pow16]; exact Nat.pow_le_pow_right (by omega) h
theorem nd_small {a k : Nat} (h : a < 65536 ^ k) : nd a ≤ k := nd_le.2 h
theorem nd_m (a : Nat) : nd (mN a) ≤ 4 := nd_small (by have := mN_lt a; omega)
theorem sum_tail {h0 h : HP} (w : Wf h) (le : Le h0 h) {vx : AV} {x : Nat} (xx : IsN h vx x) {s : Nat} {e : Int} (hx : nd x ≤ 400) (he : -6000 ≤ e ∧ e ≤ 6000) (n : Nat) (hn : 20000 < n) :
    TotU (cal (SF tabS (n + 5)) 41 [vI (Int.ofNat 1)] h fun v1 h11 =>
      cal (SF tabS (n + 5)) 39 [vx, v1, vI e] h11 fun t66 h12 =>
      asI .u64 t66 fun t66a =>
      cal (SF tabS (n + 5)) 37 [uv s, .int .u64 t66a] h12 fun t67 h13 =>
      asI .u64 t67 fun t67a =>
      some (.ret (AV.int .u64 t67a) h13, .no)) h0 := by
  obtain ⟨v1, h1, e1, w1, le1, x1, _⟩ := sf_of w (N := 1) (by omega) (n + 4) (by omega)
  rw [cal_of e1]
  obtain ⟨k, hk, h2, e2, w2, le2⟩ := sf_nearT w1 (xx.mono le1) x1 (by decide) hx (by decide) he n hn
  rw [cal_of e2, asI_uv, cal_of (sf_signed' (s := s) hk (n + 4) h2), asI_uv]
  exact ⟨_, sg_lt hk, h2, rfl, w2, le.trans (le1.trans le2)⟩
theorem sf_sum {h : HP} (w : Wf h) {a b : Nat} (ha : a < 2 ^ 64) (hb : b < 2 ^ 64) (n : Nat) (hn : 20000 < n) : TotU (SF tabS (n + 6) 36 [uv a, uv b] h .no) h := by
  rw [SF_succ, find36, enter36]
  unfold S36_1
  rw [parts_k ha, parts_k hb, num_k ha, num_k hb]
  have ma := mN_lt a
  have mb := mN_lt b
  have pa := pN_le a
  have pb := pN_le b
  have key : ∀ L : Int, L ≤ pN a → L ≤ pN b → -1074 ≤ L → TotU (S36_0 (SF tabS (n + 5)) (n + 5) (Int.ofNat (sN a)) (Int.ofNat (sN b)) (Int.ofNat (mN a)) (pN a) (Int.ofNat (mN b)) (pN b) L h) h := by
    intro L l1 l2 l3
    unfold S36_0
    obtain ⟨v1, h1, e1, w1, le1, x1, _⟩ := sf_of w (N := mN a) (by omega) (n + 4) (by omega)
    rw [cal_of e1]
    obtain ⟨p, hp⟩ : ∃ p : Nat, pN a - L = (p : Int) := ⟨(pN a - L).toNat, by omega⟩
    obtain ⟨q, hq⟩ : ∃ q : Nat, pN b - L = (q : Int) := ⟨(pN b - L).toNat, by omega⟩
    have n1 := nd_m a
    have n2 := nd_m b
    have ep : wrQ .i64 (pN a - L) = Int.ofNat p := by rw [wr_id (by omega) (by omega)]; exact hp
    have eq : wrQ .i64 (pN b - L) = Int.ofNat q := by rw [wr_id (by omega) (by omega)]; exact hq
    simp only [ep, eq]
    obtain ⟨v2, h2, e2, w2, le2, x2, _⟩ := sf_twice w1 x1 (q := p) (by omega) (by omega) (n + 2) (by omega)
    rw [cal_of e2]
    obtain ⟨v3, h3, e3, w3, le3, x3, _⟩ := sf_of w2 (N := mN b) (by omega) (n + 4) (by omega)
    rw [cal_of e3]
    obtain ⟨v4, h4, e4, w4, le4, x4, _⟩ := sf_twice w3 x3 (q := q) (by omega) (by omega) (n + 2) (by omega)
    rw [cal_of e4]
    have y2 := (x2.mono le3).mono le4
    have le : Le h h4 := le1.trans (le2.trans (le3.trans le4))
    have px : mN a * 2 ^ p < 65536 ^ 140 := Nat.lt_of_lt_of_le (Nat.mul_lt_mul_of_pos_right ma (Nat.two_pow_pos p)) (by
      rw [← Nat.pow_add]
      exact two_le (k := 140) (by omega))
    have py : mN b * 2 ^ q < 65536 ^ 140 := Nat.lt_of_lt_of_le (Nat.mul_lt_mul_of_pos_right mb (Nat.two_pow_pos q)) (by
      rw [← Nat.pow_add]
      exact two_le (k := 140) (by omega))
    have nx := nd_small px
    have ny := nd_small py
    have nz : nd (mN a * 2 ^ p + mN b * 2 ^ q) ≤ 400 := by
      refine Nat.le_trans (nd_small (k := 141) ?_) (by omega)
      refine Nat.lt_of_lt_of_le (Nat.add_lt_add px py) ?_
      rw [Nat.pow_succ 65536 140, ← Nat.mul_two]
      exact Nat.mul_le_mul_left _ (by decide)
    clear px py
    generalize hX : mN a * 2 ^ p = X at *
    generalize hY : mN b * 2 ^ q = Y at *
    rw [bu_eql, asB_v, br_if]
    split
    · rename_i g
      obtain ⟨v5, h5, e5, w5, le5, x5, _⟩ := sf_plus w4 y2 x4 ⟨by omega, by omega⟩ (n + 3) (by omega)
      rw [cal_of e5]
      exact sum_tail w5 (le.trans le5) x5 (s := sN a) (e := L) nz (by omega) n hn
    · rename_i g
      rw [cal_of (sf_cmp y2 x4 (n + 3) ⟨by omega, by omega⟩ ⟨by omega, by omega⟩), asI_iv]
      unfold cmpN
      by_cases c1 : X < Y
      · rw [if_pos c1]
        simp only [eq_dec]
        rw [decide_eq_false (by decide), br_f, decide_eq_false (by decide), br_f]
        obtain ⟨v5, h5, e5, w5, le5, x5, _⟩ := sf_minus w4 x4 y2 (Nat.le_of_lt c1) (by omega) (n + 3) (by omega)
        rw [cal_of e5]
        exact sum_tail w5 (le.trans le5) x5 (s := sN b) (e := L) (Nat.le_trans (nd_mono (Nat.sub_le _ _)) (by omega)) (by omega) n hn
      · rw [if_neg c1]
        by_cases c2 : Y < X
        · rw [if_pos c2]
          simp only [eq_dec]
          rw [decide_eq_false (by decide), br_f, decide_eq_true (by decide), br_t]
          obtain ⟨v5, h5, e5, w5, le5, x5, _⟩ := sf_minus w4 y2 x4 (Nat.le_of_lt c2) (by omega) (n + 3) (by omega)
          rw [cal_of e5]
          exact sum_tail w5 (le.trans le5) x5 (s := sN a) (e := L) (Nat.le_trans (nd_mono (Nat.sub_le _ _)) (by omega)) (by omega) n hn
        · rw [if_neg c2]
          simp only [eq_dec]
          rw [decide_eq_true (by decide), br_t]
          exact ⟨0, by decide, h4, rfl, w4, le⟩
  simp only [lt_dec]
  by_cases c : pN b < pN a
  · rw [decide_eq_true c, br_t]; exact key _ (by omega) (by omega) (by omega)
  · rw [decide_eq_false c, br_f]; exact key _ (by omega) (by omega) (by omega)
theorem x_zero {a : Nat} (ha : a < 2 ^ 64) : a % 9223372036854775808 = 0 ↔ mN a = 0 := by
  have h1 : a % 9223372036854775808 = eN a * 4503599627370496 + rN a := by unfold eN rN; omega
  unfold mN
  split <;> omega
abbrev NANT : AV := .tup [uv 9221120237041090560, vB true]
theorem pre_do {op : Nat} (h1 : 45 ≤ op) (h2 : op ≤ 48) {a b : Nat} (ha : a < 2 ^ 64) (hb : b < 2 ^ 64) (n m : Nat) (h : HP) :
    S14_6 (SF tabS (n + 2)) m (Int.ofNat op) (Int.ofNat a) (Int.ofNat b) h = if (isN a || isN b) = true then some (.ret NANT h, .no) else
      S14_0 (SF tabS (n + 2)) m (Int.ofNat op) (Int.ofNat a) (Int.ofNat b) (Int.ofNat (sN a)) (Int.ofNat (eN a)) (Int.ofNat (sN b)) (Int.ofNat (eN b)) (Int.ofNat ((sN a + sN b) % 2)) (Int.ofNat (a % 9223372036854775808)) (Int.ofNat (b % 9223372036854775808)) h := by
  unfold S14_6
  simp only [lt_nat]
  rw [decide_eq_false (by omega : ¬ op < 45), decide_eq_false (by omega : ¬ 48 < op)]
  rw [brV_f, obB_s, br_f, parts_k ha, parts_k hb]
  have s1 : sN a < 2 := by unfold sN; omega
  have s2 : sN b < 2 := by unfold sN; omega
  have s3 : sN a + sN b ≤ 18446744073709551615 := by omega
  rw [bu_add s3, asI_uv, bu_rem (by decide), asI_uv, bu_rem (by decide), asI_uv, bu_rem (by decide), asI_uv]
  rw [cal_of (sf_isN ha n h), asB_v, br_b]
  by_cases e : isN a = true
  · rw [if_pos e, e, Bool.true_or, if_pos rfl]
    unfold S14_4
    rw [br_t]
  · rw [if_neg e, cal_of (sf_isN hb n h), asB_v]
    unfold S14_4
    rw [br_b, Bool.eq_false_iff.2 e, Bool.false_or]
theorem ret_sgn {h0 h : HP} (w : Wf h) (le : Le h0 h) {s k : Nat} (hk : k ≤ 9218868437227405312) (n : Nat) :
    TotD (cal (SF tabS (n + 1)) 37 [uv s, uv k] h fun t222 h22 => asI .u64 t222 fun t222a => some (.ret (.tup [(AV.int .u64 t222a), (vB true)]) h22, .no)) h0 := by
  rw [cal_of (sf_signed' hk n h), asI_uv]
  exact ⟨_, sg_lt hk, h, rfl, w, le⟩
theorem do45 {h : HP} (w : Wf h) {a b : Nat} (ha : a < 2 ^ 64) (hb : b < 2 ^ 64) (n m : Nat) (hn : 20000 < n) :
    TotD (S14_0 (SF tabS (n + 6)) m (Int.ofNat 45) (Int.ofNat a) (Int.ofNat b) (Int.ofNat (sN a)) (Int.ofNat (eN a)) (Int.ofNat (sN b)) (Int.ofNat (eN b)) (Int.ofNat ((sN a + sN b) % 2)) (Int.ofNat (a % 9223372036854775808)) (Int.ofNat (b % 9223372036854775808)) h) h := by
  have fin : TotD (cal (SF tabS (n + 6)) 36 [uv a, uv b] h fun t160 h23 => asI .u64 t160 fun t160a => some (.ret (.tup [(AV.int .u64 t160a), (vB true)]) h23, .no)) h := by
    obtain ⟨k, hk, h', e, w', le'⟩ := sf_sum w ha hb n hn
    rw [cal_of e, asI_uv]
    exact ⟨_, hk, h', rfl, w', le'⟩
  have con : ∀ k : Nat, k < 2 ^ 64 → TotD (some (.ret (.tup [uv k, vB true]) h, .no)) h := fun k hk => ⟨_, hk, h, rfl, w, Le.refl h⟩
  by_cases ga : eN a = 2047 <;> by_cases gb : eN b = 2047 <;> by_cases gs : sN a = sN b <;> by_cases za : a % 9223372036854775808 = 0 <;> by_cases zb : b % 9223372036854775808 = 0 <;>
    simp only [S14_0, S14_2, S14_3, bu_eql, bv_eql, bv_neq, asB_v, asBV_v, eq_nat, ga, gb, gs, za, zb, not_dec, Nat.reduceEqDiff, decide_true, decide_false, brV_t, brV_f, obB_s, obBV_s, br_t, br_f, Bool.not_true, Bool.not_false] <;>
    first | exact fin | exact con _ ha | exact con _ hb | exact con _ (by decide)
theorem do47 {h : HP} (w : Wf h) {a b : Nat} (ha : a < 2 ^ 64) (hb : b < 2 ^ 64) (n m : Nat) (hn : 20000 < n) :
    TotD (S14_0 (SF tabS (n + 6)) m (Int.ofNat 47) (Int.ofNat a) (Int.ofNat b) (Int.ofNat (sN a)) (Int.ofNat (eN a)) (Int.ofNat (sN b)) (Int.ofNat (eN b)) (Int.ofNat ((sN a + sN b) % 2)) (Int.ofNat (a % 9223372036854775808)) (Int.ofNat (b % 9223372036854775808)) h) h := by
  have infs : TotD (cal (SF tabS (n + 6)) 37 [uv ((sN a + sN b) % 2), uv 9218868437227405312] h fun t222 h22 => asI .u64 t222 fun t222a => some (.ret (.tup [(AV.int .u64 t222a), (vB true)]) h22, .no)) h := ret_sgn w (Le.refl h) (Nat.le_refl _) (n + 5)
  have con : ∀ k : Nat, k < 2 ^ 64 → TotD (some (.ret (.tup [uv k, vB true]) h, .no)) h := fun k hk => ⟨_, hk, h, rfl, w, Le.refl h⟩
  have fin : TotD (S14_1 (SF tabS (n + 6)) m (Int.ofNat 47) (Int.ofNat a) (Int.ofNat b) (Int.ofNat ((sN a + sN b) % 2)) h) h := by
    have ma := mN_lt a
    have mb := mN_lt b
    have pa := pN_le a
    have pb := pN_le b
    unfold S14_1
    rw [num_k ha, num_k hb]
    simp only [eq_nat, decide_true, br_t]
    obtain ⟨v1, h1, e1, w1, le1, x1, _⟩ := sf_of w (N := mN a) (by omega) (n + 5) (by omega)
    rw [cal_of e1]
    obtain ⟨v2, h2, e2, w2, le2, x2, _⟩ := sf_of w1 (N := mN b) (by omega) (n + 5) (by omega)
    rw [cal_of e2]
    have n1 := nd_m a
    have n2 := nd_m b
    obtain ⟨v3, h3, e3, w3, le3, x3, _⟩ := sf_times w2 (x1.mono le2) x2 ⟨by omega, by omega⟩ (n + 2) (by omega)
    rw [cal_of e3]
    obtain ⟨v4, h4, e4, w4, le4, x4, _⟩ := sf_of w3 (N := 1) (by omega) (n + 5) (by omega)
    rw [cal_of e4]
    have n3 : nd (mN a * mN b) ≤ 400 := Nat.le_trans (nd_mul _ _) (by omega)
    simp only [add_dec]
    rw [wr_id (z := pN a + pN b) (by omega) (by omega)]
    obtain ⟨k, hk, h5, e5, w5, le5⟩ := sf_nearT w4 (x3.mono le4) x4 (by decide) (e := pN a + pN b) n3 (by decide) (by omega) (n + 1) (by omega)
    rw [cal_of e5, asI_uv]
    exact ret_sgn w5 (le1.trans (le2.trans (le3.trans (le4.trans le5)))) hk (n + 5)
  by_cases ga : eN a = 2047 <;> by_cases gb : eN b = 2047 <;> by_cases za : a % 9223372036854775808 = 0 <;> by_cases zb : b % 9223372036854775808 = 0 <;>
    simp only [S14_0, S14_2, S14_3, bu_eql, bv_eql, bv_neq, asB_v, asBV_v, eq_nat, ga, gb, za, zb, not_dec, Nat.reduceEqDiff, decide_true, decide_false, brV_t, brV_f, obB_s, obBV_s, br_t, br_f, Bool.not_true, Bool.not_false] <;>
    first | exact fin | exact infs | exact con _ (by decide)
theorem do48 {h : HP} (w : Wf h) {a b : Nat} (ha : a < 2 ^ 64) (hb : b < 2 ^ 64) (n m : Nat) (hn : 20000 < n) :
    TotD (S14_0 (SF tabS (n + 6)) m (Int.ofNat 48) (Int.ofNat a) (Int.ofNat b) (Int.ofNat (sN a)) (Int.ofNat (eN a)) (Int.ofNat (sN b)) (Int.ofNat (eN b)) (Int.ofNat ((sN a + sN b) % 2)) (Int.ofNat (a % 9223372036854775808)) (Int.ofNat (b % 9223372036854775808)) h) h := by
  have infs : TotD (cal (SF tabS (n + 6)) 37 [uv ((sN a + sN b) % 2), uv 9218868437227405312] h fun t222 h22 => asI .u64 t222 fun t222a => some (.ret (.tup [(AV.int .u64 t222a), (vB true)]) h22, .no)) h := ret_sgn w (Le.refl h) (Nat.le_refl _) (n + 5)
  have zeros : TotD (cal (SF tabS (n + 6)) 37 [uv ((sN a + sN b) % 2), uv 0] h fun t222 h22 => asI .u64 t222 fun t222a => some (.ret (.tup [(AV.int .u64 t222a), (vB true)]) h22, .no)) h := ret_sgn w (Le.refl h) (Nat.zero_le _) (n + 5)
  have con : ∀ k : Nat, k < 2 ^ 64 → TotD (some (.ret (.tup [uv k, vB true]) h, .no)) h := fun k hk => ⟨_, hk, h, rfl, w, Le.refl h⟩
  have fin : mN b ≠ 0 → TotD (S14_1 (SF tabS (n + 6)) m (Int.ofNat 48) (Int.ofNat a) (Int.ofNat b) (Int.ofNat ((sN a + sN b) % 2)) h) h := fun mb0 => by
    have ma := mN_lt a
    have mb := mN_lt b
    have pa := pN_le a
    have pb := pN_le b
    unfold S14_1
    rw [num_k ha, num_k hb]
    simp only [eq_nat, Nat.reduceEqDiff, decide_false, br_f]
    obtain ⟨v1, h1, e1, w1, le1, x1, _⟩ := sf_of w (N := mN a) (by omega) (n + 5) (by omega)
    rw [cal_of e1]
    obtain ⟨v2, h2, e2, w2, le2, x2, _⟩ := sf_of w1 (N := mN b) (by omega) (n + 5) (by omega)
    rw [cal_of e2]
    have n1 := nd_m a
    have n2 := nd_m b
    rw [wr_id (z := pN a - pN b) (by omega) (by omega)]
    obtain ⟨k, hk, h5, e5, w5, le5⟩ := sf_nearT w2 (x1.mono le2) x2 mb0 (e := pN a - pN b) (by omega) (by omega) (by omega) (n + 1) (by omega)
    rw [cal_of e5, asI_uv]
    exact ret_sgn w5 (le1.trans (le2.trans le5)) hk (n + 5)
  have mz := x_zero hb
  by_cases ga : eN a = 2047 <;> by_cases gb : eN b = 2047 <;> by_cases za : a % 9223372036854775808 = 0 <;> by_cases zb : b % 9223372036854775808 = 0 <;>
    simp only [S14_0, S14_2, S14_3, bu_eql, bv_eql, bv_neq, asB_v, asBV_v, eq_nat, ga, gb, za, zb, not_dec, Nat.reduceEqDiff, decide_true, decide_false, brV_t, brV_f, obB_s, obBV_s, br_t, br_f, Bool.not_true, Bool.not_false] <;>
    first | exact fin (fun e => zb (mz.2 e)) | exact infs | exact zeros | exact con _ (by decide)
theorem sf_Do {h : HP} (w : Wf h) {op a b : Nat} (h1 : 45 ≤ op) (h2 : op ≤ 48) (ha : a < 2 ^ 64) (hb : b < 2 ^ 64) (n : Nat) (hn : 20000 < n) : TotD (SF tabS (n + 8) 14 [iv op, uv a, uv b] h .no) h := by
  have nan : TotD (some (.ret NANT h, .no)) h := ⟨_, by decide, h, rfl, w, Le.refl h⟩
  have base : ∀ (n op b : Nat), 20000 < n → op = 45 ∨ op = 47 ∨ op = 48 → b < 2 ^ 64 → TotD (SF tabS (n + 7) 14 [iv op, uv a, uv b] h .no) h := by
    intro n op b hn ho hb
    rw [SF_succ, find14, enter14, pre_do (by omega) (by omega) ha hb]
    split
    · exact nan
    · rcases ho with rfl | rfl | rfl
      · exact do45 w ha hb n _ hn
      · exact do47 w ha hb n _ hn
      · exact do48 w ha hb n _ hn
  rcases (show (op = 45 ∨ op = 47 ∨ op = 48) ∨ op = 46 by omega) with ho | ho
  · exact base (n + 1) op b (by omega) ho hb
  · subst ho
    rw [SF_succ, find14, enter14, pre_do (by omega) (by omega) ha hb]
    split
    · exact nan
    · unfold S14_0
      simp only [eq_nat, decide_true, br_t]
      rw [cal_of (sf_neg' hb (n + 4) h), asI_uv]
      obtain ⟨k, hk, h', e, w', le'⟩ := base n 45 (ngN b) hn (.inl rfl) (ng_lt hb)
      rw [cal_of e]
      exact ⟨_, hk, h', rfl, w', le'⟩
end
end Go.Proofs.YtcoldhmbmcdemaaGreat.Lg
