/- Long numbers: what the printed functions of the reference answer: digit, trim, of, compare. -/
import Derived.Test.YtakcpnpeadkfpaaGreatDoorL1
import Derived.Test.YtakcpnpeadkfpaaGreatDoorVa
import Derived.Test.YtakcpnpeadkfpaaGreatDoorL2
set_option linter.unusedVariables false
set_option linter.unusedSimpArgs false
set_option linter.unusedSectionVars false
namespace Go.Proofs.YtakcpnpeadkfpaaGreatDoor.Lg
open Go Go.Proofs.YtakcpnpeadkfpaaGreatDoor.Ev Go.Proofs.YtakcpnpeadkfpaaGreatDoor.Sx
noncomputable section
/- Words. -/
abbrev rh : Rho := rhoV 0 ⟨0, 0, 0⟩ rfl
theorem wr_id {z : Int} (h1 : -9223372036854775808 ≤ z) (h2 : z ≤ 9223372036854775807) : wrQ .i64 z = z := by
 rw [wrQ_eq, @wrapF_eq rh]; unfold IntKind.wrap; simp [IntKind.signed, IntKind.bits]; omega
theorem wf_id {z : Int} (h1 : -9223372036854775808 ≤ z) (h2 : z ≤ 9223372036854775807) : wrapF .i64 z = z := by
 rw [@wrapF_eq rh]; unfold IntKind.wrap; simp [IntKind.signed, IntKind.bits]; omega
theorem wr_nat {n : Nat} (h : n ≤ 9223372036854775807) : wrQ .i64 (Int.ofNat n) = Int.ofNat n := wr_id (by show -9223372036854775808 ≤ (n : Int); omega) (by show (n : Int) ≤ _; omega)
theorem wf_nat {n : Nat} (h : n ≤ 9223372036854775807) : wrapF .i64 (Int.ofNat n) = Int.ofNat n := wf_id (by show -9223372036854775808 ≤ (n : Int); omega) (by show (n : Int) ≤ _; omega)
theorem lt_dec (a b : Int) : ltQ a b = decide (a < b) := by rw [ltQ_eq, @ltF_eq rh]
theorem le_dec (a b : Int) : leQ a b = decide (a ≤ b) := by rw [leQ_eq, @leF_eq rh]
theorem eq_dec (a b : Int) : eqQ a b = decide (a = b) := by rw [eqQ_eq, @eqF_eq rh]; rfl
theorem add_dec (a b : Int) : addQ a b = a + b := by rw [addQ_eq, @addF_eq rh]
theorem lt_nat (a b : Nat) : ltQ (Int.ofNat a) (Int.ofNat b) = decide (a < b) := by
 rw [lt_dec]; exact decide_eq_decide.2 Int.ofNat_lt
theorem eq_nat (a b : Nat) : eqQ (Int.ofNat a) (Int.ofNat b) = decide (a = b) := by
 rw [eq_dec]; exact decide_eq_decide.2 ⟨fun h => Int.ofNat.inj h, fun h => congrArg _ h⟩
theorem add_nat (a b : Nat) : addQ (Int.ofNat a) (Int.ofNat b) = Int.ofNat (a + b) := rfl
theorem mul_nat (a b : Nat) : Int.ofNat a * Int.ofNat b = Int.ofNat (a * b) := rfl
theorem tmod_nat (a b : Nat) : Int.tmod (Int.ofNat a) (Int.ofNat b) = Int.ofNat (a % b) := rfl
theorem tdiv_nat (a b : Nat) : Int.tdiv (Int.ofNat a) (Int.ofNat b) = Int.ofNat (a / b) := rfl
theorem sub_nat {a b : Nat} (h : b ≤ a) : Int.ofNat a - Int.ofNat b = Int.ofNat (a - b) := by
 show (a : Int) - (b : Int) = ((a - b : Nat) : Int); omega
theorem br_t (x y : Res2) : br true x y = x := rfl
theorem br_f (x y : Res2) : br false x y = y := rfl
theorem br_if {p : Prop} [Decidable p] (x y : Res2) : br (decide p) x y = if p then x else y := by
 by_cases h : p <;> simp [h] <;> rfl
theorem or_B (c d : Bool) (F : Bool → Res2) : obB (brV c (some (vB true)) (some (vB d))) F = F (c || d) := by cases c <;> rfl
theorem and_B (c d : Bool) (F : Bool → Res2) : obB (brV c (some (vB d)) (some (vB false))) F = F (c && d) := by cases c <;> rfl
theorem asI_iv (x : Int) (F : Int → Res2) : asI .i64 (vI x) F = F x := rfl
theorem asIV_iv (x : Int) (F : Int → Option AV) : asIV .i64 (vI x) F = F x := rfl
theorem cal_of {D : CallD} {f : Nat} {xs : List AV} {h h' : HP} {v : AV} (e : D f xs h .no = some (.ret v h', .no)) (k : AV → HP → Res2) : cal D f xs h k = k v h' := by
 unfold cal calC; rw [e]; rfl
theorem SF_succ (t : ST) (n f : Nat) (xs : List AV) (h : HP) (u : AMode) : SF t (n + 1) f xs h u = t.run f (SF t n) n xs h u := rfl
/- Lists. -/
def IsN (h : HP) (v : AV) (n : Nat) : Prop := IsL h v (digs n)
theorem IsN.mono {h h' : HP} {v : AV} {n : Nat} (e : Le h h') (x : IsN h v n) : IsN h' v n := IsL.mono e x
theorem len_of {h : HP} {v : AV} {l : List Nat} (x : IsL h v l) (F : AV → Res2) : lenC v F = F (iv l.length) := by
 rcases x with ⟨rfl, rfl⟩ | ⟨b, vs, rfl, _⟩ <;> rfl
theorem lenV_of {h : HP} {v : AV} {l : List Nat} (x : IsL h v l) (F : AV → Option AV) : lenCV v F = F (iv l.length) := by
 rcases x with ⟨rfl, rfl⟩ | ⟨b, vs, rfl, _⟩ <;> rfl
theorem digs_length (n : Nat) : (digs n).length = nd n := low_length _ _
theorem lenN {h : HP} {v : AV} {n : Nat} (x : IsN h v n) (F : AV → Res2) : lenC v F = F (iv (nd n)) := by rw [len_of x, digs_length]
theorem lenVN {h : HP} {v : AV} {n : Nat} (x : IsN h v n) (F : AV → Option AV) : lenCV v F = F (iv (nd n)) := by rw [lenV_of x, digs_length]
/-- A function's answer that is a number's list. -/
def RetN (r : Res2) (h : HP) (n : Nat) : Prop := ∃ v h', r = some (.ret v h', .no) ∧ Wf h' ∧ Le h h' ∧ IsN h' v n ∧ ∀ c n, v = .slice c 0 n (.spare 1) → (HP.nxQ h).toNat ≤ c.toNat
theorem find160 : tabS.run 160 = S160 := by kernel_rfl
theorem find161 : tabS.run 161 = S161 := by kernel_rfl
theorem find99 : tabS.run 99 = S99 := by kernel_rfl
theorem find130 : tabS.run 130 = S130 := by kernel_rfl
theorem enter161 (D : CallD) (m : Nat) (a : AV) (h : HP) : S161 D m [a] h .no = S161_2 D m a h := rfl
theorem enter99 (D : CallD) (m : Nat) (b : Int) (h : HP) : S99 D m [vI b] h .no = S99_2 D m b h := rfl
theorem enter130 (D : CallD) (m : Nat) (a b : AV) (h : HP) : S130 D m [a, b] h .no = S130_3 D m a b h := rfl
theorem sf_digit {h : HP} {v : AV} {N : Nat} (x : IsN h v N) (n i : Nat) : SF tabS (n + 1) 160 [v, iv i] h .no = some (.ret (iv (dig N i)) h, .no) := by
 rw [SF_succ, find160]
 show S160_0 (SF tabS n) n v (Int.ofNat i) h = _
 unfold S160_0
 rw [lenN x, asI_iv, lt_nat]
 by_cases g : i < nd N
 ·rw [decide_eq_true g, br_t]
  obtain ⟨p, h1, _, h2⟩ := load_of x i (by rw [digs_length]; exact g)
  rw [h1, (h2 h (Le.refl h)).1, digs_getD]
 ·rw [decide_eq_false g, br_f, dig_big (by omega)]
theorem cal_digit {h : HP} {v : AV} {N : Nat} (x : IsN h v N) (n i : Nat) (k : AV → HP → Res2) : cal (SF tabS (n + 1)) 160 [v, iv i] h k = k (iv (dig N i)) h := cal_of (sf_digit x n i) k
/- trim -/
/-- Both lie in one block, or the first lies in none. -/
def Part (v' v : AV) : Prop := ∀ c n, v' = .slice c 0 n (.spare 1) → ∃ k, v = .slice c 0 k (.spare 1)
theorem slice_of {h : HP} {v : AV} {l : List Nat} (x : IsL h v l) (j : Nat) (hj : j ≤ l.length) (F : AV → Res2) : ∃ v', obQ (evP (.slice (.sl 1) (.c v) none (some (.c (iv j))) none) .leaf) F = F v' ∧ IsL h v' (l.take j) ∧ Part v' v := by
 rcases x with ⟨rfl, rfl⟩ | ⟨b, vs, rfl, hg, hv⟩
 ·have : j = 0 := by simpa using hj
  subst this
  exact ⟨.nils, rfl, .inl ⟨rfl, rfl⟩, fun _ _ e => nomatch e⟩
 ·refine ⟨.slice b 0 j (.spare 1), ?_, .inr ⟨b, vs, ?_, hg, fun i hi => ?_⟩, fun c n e => ⟨l.length, by injection e with e1; subst e1; rfl⟩⟩
  ·show obQ (cutSl 1 0 l.length b (.spare 1) 0 j none) F = _
   unfold cutSl
   simp only [Nat.zero_le, and_true, hj, if_true]
   rfl
  ·rw [List.length_take, Nat.min_eq_left hj]
  ·rw [List.length_take] at hi
   rw [hv i (by omega), List.getD_eq_getElem?_getD, List.getD_eq_getElem?_getD, List.getElem?_take, if_pos (by omega)]
theorem low_take {k n j : Nat} (h : j ≤ k) : (low k n).take j = low j n := by
 unfold low
 rw [← List.map_take, List.take_range, Nat.min_eq_left h]
theorem trim_loop {h : HP} {v : AV} {K N : Nat} (hK : K ≤ 100000000) (x : IsL h v (low K N)) (D : CallD) (M : Nat) : ∀ m j, nd N ≤ j → j ≤ K → j < m → ∃ v', nrec (fun _ _ _ => none) (fun _ g => S161_1b D M g) m v (Int.ofNat j) h = some (.ret v' h, .no) ∧ IsN h v' N ∧ Part v' v := by
 intro m
 induction m with
 | zero => intro j _ _ h; omega
 | succ m ih =>
  intro j h1 h2 h3
  show ∃ v', S161_1b D M (nrec (fun _ _ _ => none) (fun _ g => S161_1b D M g) m) v (Int.ofNat j) h = _ ∧ _
  unfold S161_1b
  rw [show ltQ (Int.ofNat 0) (Int.ofNat j) = decide (0 < j) from lt_nat 0 j]
  have fin : nd N = j → ∃ v', S161_0 D M v (Int.ofNat j) h = some (.ret v' h, .no) ∧ IsN h v' N ∧ Part v' v := fun e => by
   unfold S161_0
   obtain ⟨v', e1, e2, e3⟩ := slice_of x j (by rw [low_length]; exact h2) (fun t20 => some (.ret t20 h, .no))
   refine ⟨v', e1, ?_, e3⟩
   rw [low_take h2, ← e] at e2; exact e2
  by_cases g : 0 < j
  ·rw [decide_eq_true g]
   obtain ⟨p, _, q1, q2⟩ := load_of x (j - 1) (by rw [low_length]; omega)
   have q3 := (q2 h (Le.refl h)).2.1
   rw [low_getD (by omega)] at q3
   have e1 : wrQ .i64 (Int.ofNat j - Int.ofNat 1) = Int.ofNat (j - 1) := by
    rw [sub_nat (by omega), wr_nat (by omega)]
   simp only [e1]
   show ∃ v', obB (iasCV 1 v (vI (Int.ofNat (j - 1))) fun t12 => ldIV t12 h fun t13 => some (vB (eqQ t13 (Int.ofNat 0)))) _ = _ ∧ _
   rw [q1, q3, eq_nat]
   show ∃ v', br (decide (dig N (j - 1) = 0)) _ _ = _ ∧ _
   by_cases z : dig N (j - 1) = 0
   ·rw [decide_eq_true z, br_t]
    have : nd N ≠ j := fun e => by
     have : N ≠ 0 := nd_pos.1 (by omega)
     exact top_ne this (e ▸ z)
    exact ih (j - 1) (by omega) (by omega) (by omega)
   ·rw [decide_eq_false z, br_f]
    exact fin (by have := nd_of_dig z; omega)
  ·rw [decide_eq_false g]
   exact fin (by omega)
theorem sf_trim {h : HP} {v : AV} {K N : Nat} (hK : K ≤ 100000000) (x : IsL h v (low K N)) (hN : nd N ≤ K) (n : Nat) (hn : K < n) : ∃ v', SF tabS (n + 1) 161 [v] h .no = some (.ret v' h, .no) ∧ IsN h v' N ∧ Part v' v := by
 rw [SF_succ, find161, enter161]
 unfold S161_2
 rw [len_of x, low_length, asI_iv]
 exact trim_loop hK x (SF tabS n) n n K hN (Nat.le_refl _) hn
theorem of_loop {h0 : HP} {N : Nat} (hN : N ≤ 9223372036854775807) (D : CallD) (M : Nat) : ∀ m i h v, OwnL h0 h v (low i N) → i ≤ nd N → nd N < i + m →
  ∃ v' h', nrec (fun _ _ _ => none) (fun _ g => S99_1b D M g) m (Int.ofNat (N / 65536 ^ i)) v h = some (.ret v' h', .no) ∧ OwnL h0 h' v' (digs N) := by
 intro m
 induction m with
 | zero => intro i _ _ _ _ h; omega
 | succ m ih =>
  intro i h v o h1 h2
  show ∃ v' h', S99_1b D M (nrec (fun _ _ _ => none) (fun _ g => S99_1b D M g) m) (Int.ofNat (N / 65536 ^ i)) v h = _ ∧ _
  unfold S99_1b
  rw [lt_nat 0]
  have hle : N / 65536 ^ i ≤ N := Nat.div_le_self _ _
  by_cases g : 0 < N / 65536 ^ i
  ·rw [decide_eq_true g, br_t, tmod_nat, tdiv_nat]
   have hl : i < nd N := by
    rcases Nat.lt_or_ge i (nd N) with q | q
    ·exact q
    ·rw [Nat.div_eq_of_lt (nd_le.1 q)] at g; omega
   have h4 : nd N ≤ 4 := nd_le.2 (by omega)
   obtain ⟨v', h', e1, o', _⟩ := app_own o (N / 65536 ^ i % 65536) (by rw [low_length]; omega)
   rw [wf_nat (n := N / 65536 ^ i / 65536) (by omega)]
   simp only [e1]
   rw [← div_succ]
   have : low i N ++ [N / 65536 ^ i % 65536] = low (i + 1) N := (low_succ i N).symm
   rw [this] at o'
   exact ih (i + 1) h' v' o' hl (by omega)
  ·rw [decide_eq_false g, br_f]
   refine ⟨v, h, rfl, ?_⟩
   have : i = nd N := by
    apply Nat.le_antisymm h1
    rw [nd_le]
    exact (Nat.div_eq_zero_iff_lt (pow_pos' i)).1 (Nat.eq_zero_of_not_pos g)
   rw [digs, ← this]; exact o
theorem OwnL.new {h0 h : HP} {v : AV} {l : List Nat} (o : OwnL h0 h v l) : ∀ c n, v = .slice c 0 n (.spare 1) → (HP.nxQ h0).toNat ≤ c.toNat := fun c n e => by
 rcases o.2.2.2 with ⟨rfl, _⟩ | ⟨b, rfl, h2, _⟩
 ·cases e
 ·injection e with e1; subst e1; exact h2
theorem OwnL.ret {h0 h : HP} {v : AV} {n : Nat} (o : OwnL h0 h v (digs n)) : RetN (some (.ret v h, .no)) h0 n := ⟨v, h, rfl, o.2.1, o.2.2.1, o.isL, o.new⟩
theorem sf_of {h : HP} (w : Wf h) {N : Nat} (hN : N ≤ 9223372036854775807) (n : Nat) (hn : 4 < n) : RetN (SF tabS (n + 1) 99 [iv N] h .no) h N := by
 rw [SF_succ, find99, enter99]
 unfold S99_2 S99_1
 have h4 : nd N ≤ 4 := nd_le.2 (by omega)
 obtain ⟨v', h', e, o⟩ := of_loop (h0 := h) hN (SF tabS n) n n 0 h .nils (OwnL.nil w) (Nat.zero_le _) (by omega)
 rw [Nat.pow_zero, Nat.div_one] at e
 rw [e]; exact o.ret
/-- compare -/
def cmpN (a b : Nat) : Int := if a < b then .negSucc 0 else if b < a then .ofNat 1 else .ofNat 0
theorem cmp_loop {h : HP} {va vb : AV} {a b : Nat} (xa : IsN h va a) (xb : IsN h vb b) (n M : Nat) : ∀ m j, j < m → j ≤ 100000000 → a / 65536 ^ j = b / 65536 ^ j →
  nrec (fun _ _ _ _ => none) (fun _ g => S130_2b (SF tabS (n + 1)) M g) m va vb (Int.ofNat j - Int.ofNat 1) h = some (.ret (vI (cmpN a b)) h, .no) := by
 intro m
 induction m with
 | zero => intro j h; omega
 | succ m ih =>
  intro j h1 h2 h3
  show S130_2b (SF tabS (n + 1)) M (nrec (fun _ _ _ _ => none) (fun _ g => S130_2b (SF tabS (n + 1)) M g) m) va vb (Int.ofNat j - Int.ofNat 1) h = _
  unfold S130_2b
  rw [le_dec]
  cases j with
  | zero =>
   rw [decide_eq_false (by decide), br_f]
   rw [Nat.pow_zero, Nat.div_one, Nat.div_one] at h3
   subst h3
   unfold S130_1 cmpN
   rw [if_neg (Nat.lt_irrefl _), if_neg (Nat.lt_irrefl _)]
  | succ j =>
   have e : Int.ofNat (j + 1) - Int.ofNat 1 = Int.ofNat j := sub_nat (a := j + 1) (b := 1) (by omega)
   rw [e, decide_eq_true (show Int.ofNat 0 ≤ Int.ofNat j from Int.ofNat_le.2 (Nat.zero_le _)), br_t, cal_digit xa, asI_iv, cal_digit xb, asI_iv, lt_nat, lt_nat]
   have da := div_dig a j
   have db := div_dig b j
   rw [h3] at da
   by_cases g1 : dig a j < dig b j
   ·rw [decide_eq_true g1, br_t]
    have : a < b := by
     rcases Nat.lt_or_ge a b with q | q
     ·exact q
     ·have := Nat.div_le_div_right (c := 65536 ^ j) q; omega
    unfold cmpN; rw [if_pos this]
   ·rw [decide_eq_false g1, br_f]
    by_cases g2 : dig b j < dig a j
    ·rw [decide_eq_true g2, br_t]
     have : b < a := by
      rcases Nat.lt_or_ge b a with q | q
      ·exact q
      ·have := Nat.div_le_div_right (c := 65536 ^ j) q; omega
     unfold cmpN; rw [if_neg (by omega), if_pos this]
    ·rw [decide_eq_false g2, br_f]
     have e2 : wrQ .i64 (Int.ofNat j - Int.ofNat 1) = Int.ofNat j - Int.ofNat 1 := wr_id (by show _ ≤ (j : Int) - 1; omega) (by show (j : Int) - 1 ≤ _; omega)
     rw [e2]
     exact ih j (by omega) (by omega) (by omega)
theorem sf_cmp {h : HP} {va vb : AV} {a b : Nat} (xa : IsN h va a) (xb : IsN h vb b) (n : Nat) (hn : nd a < n ∧ nd b < n) (hb : nd a ≤ 100000000 ∧ nd b ≤ 100000000) : SF tabS (n + 2) 130 [va, vb] h .no = some (.ret (vI (cmpN a b)) h, .no) := by
 rw [SF_succ, find130, enter130]
 unfold S130_3
 rw [lenN xa, asI_iv, lenN xb, asI_iv, lt_nat]
 have key : ∀ k, nd a ≤ k → nd b ≤ k → k < n → k ≤ 100000000 → S130_0 (SF tabS (n + 1)) (n + 1) va vb (Int.ofNat k) h = some (.ret (vI (cmpN a b)) h, .no) := fun k h1 h2 h3 h4 => by
  unfold S130_0
  rw [wr_id (z := Int.ofNat k - Int.ofNat 1) (by show _ ≤ (k : Int) - 1; omega) (by show (k : Int) - 1 ≤ _; omega)]
  exact cmp_loop xa xb n (n + 1) (n + 1) k (by omega) h4 (by rw [Nat.div_eq_of_lt (nd_le.1 h1), Nat.div_eq_of_lt (nd_le.1 h2)])
 by_cases g : nd a < nd b
 ·rw [decide_eq_true g, br_t, lenN xb, asI_iv]
  exact key _ (by omega) (Nat.le_refl _) hn.2 hb.2
 ·rw [decide_eq_false g, br_f]
  exact key _ (Nat.le_refl _) (by omega) hn.1 hb.1
end
end Go.Proofs.YtakcpnpeadkfpaaGreatDoor.Lg
