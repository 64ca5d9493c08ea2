/- Long numbers: what the printed functions times, parts, Is, number, signed, Neg, order of the reference answer. -/
import Derived.Test.YtakcpnpeadkfpaaGreatDoorL7
import Derived.Test.YtakcpnpeadkfpaaGreatDoorEd
set_option linter.unusedVariables false
set_option linter.unusedSimpArgs false
set_option linter.unusedSectionVars false
namespace Go.Proofs.YtakcpnpeadkfpaaGreatDoor.Lg
open Go Go.Proofs.YtakcpnpeadkfpaaGreatDoor.Ev Go.Proofs.YtakcpnpeadkfpaaGreatDoor.Sx
noncomputable section
theorem nd_mul (a b : Nat) : nd (a * b) ≤ nd a + nd b := nd_le.2 (by rw [Nat.pow_add]; exact Nat.mul_lt_mul'' (lt_nd a) (lt_nd b))
theorem times_loop {h0 : HP} {va vb : AV} {a b : Nat} (xa : IsN h0 va a) (xb : IsN h0 vb b) (hb : nd a ≤ 400 ∧ nd b ≤ 400) (n M : Nat) (hn : 20000 < n) : ∀ j m h v, j < m → j ≤ nd b → Wf h → Le h0 h → IsN h v (a * (b / 65536 ^ j)) →
  (∀ c n, v = .slice c 0 n (.spare 1) → (HP.nxQ h0).toNat ≤ c.toNat) → RetN (nrec (fun _ _ _ _ _ => none) (fun _ g => S98_1b (SF tabS (n + 3)) M g) m va vb v (Int.ofNat j - Int.ofNat 1) h) h0 (a * b) := by
 intro j
 induction j with
 | zero =>
  intro m h v h1 h2 w le x new
  obtain ⟨m, rfl⟩ : ∃ k, m = k + 1 := ⟨m - 1, by omega⟩
  show RetN (S98_1b (SF tabS (n + 3)) M (nrec (fun _ _ _ _ _ => none) (fun _ g => S98_1b (SF tabS (n + 3)) M g) m) va vb v (Int.ofNat 0 - Int.ofNat 1) h) h0 (a * b)
  unfold S98_1b
  rw [le_dec, decide_eq_false (by decide), br_f]
  rw [Nat.pow_zero, Nat.div_one] at x
  exact ⟨v, h, rfl, w, le, x, new⟩
 | succ j ih =>
  intro m h v h1 h2 w le x new
  obtain ⟨m, rfl⟩ : ∃ k, m = k + 1 := ⟨m - 1, by omega⟩
  show RetN (S98_1b (SF tabS (n + 3)) M (nrec (fun _ _ _ _ _ => none) (fun _ g => S98_1b (SF tabS (n + 3)) M g) m) va vb v (Int.ofNat (j + 1) - Int.ofNat 1) h) h0 (a * b)
  have ih := fun h v => ih m h v (by omega) (by omega)
  generalize nrec (fun _ _ _ _ _ => none) (fun _ g => S98_1b (SF tabS (n + 3)) M g) m = G at ih ⊢
  rw [sub_nat (a := j + 1) (b := 1) (by omega)]
  show RetN (S98_1b (SF tabS (n + 3)) M G va vb v (Int.ofNat j) h) h0 (a * b)
  unfold S98_1b
  rw [le_dec, decide_eq_true (show Int.ofNat 0 ≤ Int.ofNat j from Int.ofNat_le.2 (Nat.zero_le _)), br_t]
  have ya := xa.mono le
  have yb := xb.mono le
  obtain ⟨p, q1, _, q2⟩ := load_of yb j (by rw [digs_length]; omega)
  have hnd : ∀ k, nd (a * (b / 65536 ^ k)) ≤ 800 := fun k => Nat.le_trans (nd_mono (Nat.mul_le_mul_left _ (Nat.div_le_self _ _))) (Nat.le_trans (nd_mul a b) (by omega))
  rw [q1, (q2 h (Le.refl h)).1]
  obtain ⟨v2, h2', e2, w2, le2, x2, new2⟩ := sf_twice w x (q := 16) (by have := hnd (j + 1); omega) (by omega) n (by have := hnd (j + 1); omega)
  rw [cal_of e2, again98 (q2 h2' le2).2.2, br_t, digs_getD]
  have dl := dig_lt b j
  obtain ⟨v3, h3, e3, w3, le3, x3, new3⟩ := sf_small w2 (ya.mono le2) (q := dig b j) (by omega) (by omega) (n + 1) (by omega)
  rw [cal_of e3]
  have n1 : nd (a * (b / 65536 ^ (j + 1)) * 2 ^ 16) ≤ 1000 := Nat.le_trans (nd_two _ _) (by have := hnd (j + 1); omega)
  have n3 : nd (dig b j) ≤ 1 := nd_le.2 (by rw [Nat.pow_one]; exact dl)
  have n2 : nd (a * dig b j) ≤ 1000 := Nat.le_trans (nd_mul _ _) (by omega)
  obtain ⟨v4, h4, e4, w4, le4, x4, new4⟩ := sf_plus w3 (x2.mono le3) x3 ⟨by omega, by omega⟩ (n + 1) (by omega)
  rw [cal_of e4]
  have ee : wrQ .i64 (Int.ofNat j - Int.ofNat 1) = Int.ofNat j - Int.ofNat 1 := wr_id (by show _ ≤ (j : Int) - 1; omega) (by show (j : Int) - 1 ≤ _; omega)
  simp only [ee]
  refine ih h4 v4 w4 (le.trans (le2.trans (le3.trans le4))) ?_ (fun c k e => ?_)
  ·have : a * (b / 65536 ^ (j + 1)) * 2 ^ 16 + a * dig b j = a * (b / 65536 ^ j) := by
    rw [div_dig b j, Nat.mul_add, Nat.mul_assoc]
    congr 2
    exact Nat.mul_comm _ _
   rw [this] at x4; exact x4
  ·exact Nat.le_trans (le.trans (le2.trans le3)).1 (new4 c k e)
theorem sf_times {h : HP} (w : Wf h) {va vb : AV} {a b : Nat} (xa : IsN h va a) (xb : IsN h vb b) (hb : nd a ≤ 400 ∧ nd b ≤ 400) (n : Nat) (hn : 20000 < n) : RetN (SF tabS (n + 4) 98 [va, vb] h .no) h (a * b) := by
 rw [SF_succ, find98, enter98]
 unfold S98_2 S98_1
 rw [lenN xb, asI_iv, wr_id (z := Int.ofNat (nd b) - Int.ofNat 1) (by show _ ≤ (nd b : Int) - 1; omega) (by show (nd b : Int) - 1 ≤ _; omega)]
 refine times_loop xa xb hb n (n + 3) hn (nd b) (n + 3) h .nils (by omega) (Nat.le_refl _) w (Le.refl h) ?_ (fun _ _ e => nomatch e)
 rw [Nat.div_eq_of_lt (lt_nd b), Nat.mul_zero]
 exact .inl ⟨rfl, rfl⟩
/- The parts of a word. -/
def sN (a : Nat) : Nat := a / 9223372036854775808
def eN (a : Nat) : Nat := a / 4503599627370496 % 2048
def rN (a : Nat) : Nat := a % 4503599627370496
def isN (a : Nat) : Bool := decide (eN a = 2047) && !decide (rN a = 0)
def mN (a : Nat) : Nat := if eN a = 0 then rN a else rN a + 4503599627370496
def pN (a : Nat) : Int := if eN a = 0 then -1074 else (eN a : Int) - 1075
theorem find42 : tabS.run 42 = S42 := by kernel_rfl
theorem find41 : tabS.run 41 = S41 := by kernel_rfl
theorem find95 : tabS.run 95 = S95 := by kernel_rfl
theorem find96 : tabS.run 96 = S96 := by kernel_rfl
theorem find100 : tabS.run 100 = S100 := by kernel_rfl
theorem find22 : tabS.run 22 = S22 := by kernel_rfl
theorem enter42 (D : CallD) (m : Nat) (a : Int) (h : HP) : S42 D m [.int .u64 a] h .no = S42_0 D m a h := rfl
theorem enter41 (D : CallD) (m : Nat) (a : Int) (h : HP) : S41 D m [.int .u64 a] h .no = S41_0 D m a h := rfl
theorem enter95 (D : CallD) (m : Nat) (a b : Int) (h : HP) : S95 D m [.int .u64 a, .int .u64 b] h .no = S95_0 D m a b h := rfl
theorem enter96 (D : CallD) (m : Nat) (a : Int) (h : HP) : S96 D m [.int .u64 a] h .no = S96_0 D m a h := rfl
theorem enter100 (D : CallD) (m : Nat) (a : Int) (h : HP) : S100 D m [.int .u64 a] h .no = S100_0 D m a h := rfl
theorem enter22 (D : CallD) (m : Nat) (a : Int) (h : HP) : S22 D m [.int .u64 a] h .no = S22_0 D m a h := rfl
theorem sf_parts {a : Nat} (ha : a < 2 ^ 64) (n : Nat) (h : HP) : SF tabS (n + 1) 42 [uv a] h .no = some (.ret (.tup [uv (sN a), uv (eN a), uv (rN a)]) h, .no) := by
 rw [SF_succ, find42, enter42]
 unfold S42_0
 simp only [tdiv_nat]
 rw [wu_nat (n := a / 9223372036854775808) (by omega), wu_nat (n := a / 4503599627370496) (by omega)]
 rfl
theorem parts_k {a : Nat} (ha : a < 2 ^ 64) (n : Nat) (h : HP) (F : Int → Int → Int → HP → Res2) :
  (cal (SF tabS (n + 1)) 42 [uv a] h fun t h' => extC t 0 fun x => asI .u64 x fun x => extC t 1 fun y => asI .u64 y fun y => extC t 2 fun z => asI .u64 z fun z => F x y z h') = F (Int.ofNat (sN a)) (Int.ofNat (eN a)) (Int.ofNat (rN a)) h := by
 rw [cal_of (sf_parts ha n h)]; rfl
theorem sf_isN {a : Nat} (ha : a < 2 ^ 64) (n : Nat) (h : HP) : SF tabS (n + 2) 41 [uv a] h .no = some (.ret (vB (isN a)) h, .no) := by
 rw [SF_succ, find41, enter41]
 unfold S41_0
 rw [parts_k ha]
 simp only [eq_nat]
 rw [and_B, notQ_eq]
 rfl
theorem sf_num {a : Nat} (ha : a < 2 ^ 64) (n : Nat) (h : HP) : SF tabS (n + 2) 96 [uv a] h .no = some (.ret (.tup [iv (mN a), vI (pN a)]) h, .no) := by
 rw [SF_succ, find96, enter96]
 unfold S96_0
 rw [parts_k ha]
 have h1 : rN a < 4503599627370496 := Nat.mod_lt _ (by omega)
 have h2 : eN a < 2048 := Nat.mod_lt _ (by omega)
 simp only [eq_nat]
 rw [br_if]
 unfold mN pN
 split
 ·rename_i g
  rw [wf_nat (by omega)]
  rfl
 ·rename_i g
  rw [wf_nat (n := rN a) (by omega), wf_nat (n := eN a) (by omega)]
  simp only [add_nat]
  rw [wr_nat (by omega), wr_id (z := Int.ofNat (eN a) - Int.ofNat 1075) (by show _ ≤ (eN a : Int) - 1075; omega) (by show (eN a : Int) - 1075 ≤ _; omega)]
  rfl
theorem num_k {a : Nat} (ha : a < 2 ^ 64) (n : Nat) (h : HP) (F : Int → Int → HP → Res2) :
  (cal (SF tabS (n + 2)) 96 [uv a] h fun t h' => extC t 0 fun x => asI .i64 x fun x => extC t 1 fun y => asI .i64 y fun y => F x y h') = F (Int.ofNat (mN a)) (pN a) h := by
 rw [cal_of (sf_num ha n h)]; rfl
def sgN (s a : Nat) : Nat := if s = 1 then a + 9223372036854775808 else a
theorem sf_signed' {s a : Nat} (ha : a < 2 ^ 63) (n : Nat) (h : HP) : SF tabS (n + 1) 95 [uv s, uv a] h .no = some (.ret (uv (sgN s a)) h, .no) := by
 rw [SF_succ, find95, enter95]
 unfold S95_0
 simp only [eq_nat, add_nat]
 rw [br_if]
 unfold sgN
 split
 ·rw [wru_nat (by omega)]
 ·rfl
def ngN (a : Nat) : Nat := if isN a = true then 9221120237041090560 else if sN a = 1 then a - 9223372036854775808 else a + 9223372036854775808
theorem sf_neg' {a : Nat} (ha : a < 2 ^ 64) (n : Nat) (h : HP) : SF tabS (n + 3) 22 [uv a] h .no = some (.ret (uv (ngN a)) h, .no) := by
 rw [SF_succ, find22, enter22]
 unfold S22_0
 rw [cal_of (sf_isN ha n h)]
 show br (isN a) _ _ = _
 unfold ngN
 cases isN a
 ·rw [br_f, parts_k ha]
  simp only [eq_nat, add_nat]
  rw [br_if, if_neg Bool.false_ne_true]
  have h1 : sN a = a / 9223372036854775808 := rfl
  split
  ·rw [sub_nat (a := a) (b := 9223372036854775808) (by omega), wru_nat (by omega)]
  ·rw [wru_nat (by omega)]
 ·rfl
def orI (a : Nat) : Int := if sN a = 1 then -((a % 9223372036854775808 : Nat) : Int) else ((a % 9223372036854775808 : Nat) : Int)
theorem sf_order {a : Nat} (ha : a < 2 ^ 64) (n : Nat) (h : HP) : SF tabS (n + 2) 100 [uv a] h .no = some (.ret (vI (orI a)) h, .no) := by
 rw [SF_succ, find100, enter100]
 unfold S100_0
 rw [parts_k ha]
 simp only [eq_nat, tmod_nat]
 have hl : a % 9223372036854775808 < 9223372036854775808 := Nat.mod_lt _ (by omega)
 rw [wf_nat (by omega), br_if]
 unfold orI
 split
 ·have : IntKind.wrap .i64 (0 - Int.ofNat (a % 9223372036854775808)) = -((a % 9223372036854775808 : Nat) : Int) := by
   rw [← @wrapF_eq rh, wf_id (by show _ ≤ 0 - ((a % 9223372036854775808 : Nat) : Int); omega) (by show 0 - ((a % 9223372036854775808 : Nat) : Int) ≤ _; omega)]
   show 0 - ((a % 9223372036854775808 : Nat) : Int) = _; omega
  rw [this]
 ·rfl
/- What they mean. -/
open Ieee in
theorem rung_of {a : Nat} (ha : a < 2 ^ 64) : a % 2 ^ 63 = eN a * 2 ^ 52 + rN a ∧ (a / 2 ^ 63 % 2 == 1) = (sN a == 1) ∧ eN a < 2048 ∧ rN a < 2 ^ 52 ∧ (sN a = 0 ∨ sN a = 1) ∧ a = sN a * 2 ^ 63 + eN a * 2 ^ 52 + rN a := by
 unfold eN rN sN
 refine ⟨by omega, ?_, by omega, by omega, by omega, by omega⟩
 have : a / 2 ^ 63 < 2 := by omega
 rw [Nat.mod_eq_of_lt this]
open Ieee in
theorem read_fin {a : Nat} (ha : a < 2 ^ 64) (he : eN a ≠ 2047) : double.read a = .number (sN a == 1) (mN a) (pN a) := by
 obtain ⟨h1, h2, h3, h4, h5, _⟩ := rung_of ha
 have hb : double.binade = 2 ^ 52 := rfl
 have hs : double.signWeight = 2 ^ 63 := rfl
 have hp : double.leastPlace = -1074 := by decide
 have hi : double.infRung = 2047 * 2 ^ 52 := by decide
 unfold Format.read mN pN
 simp only [hs, hb, h2, h1]
 by_cases c : eN a = 0
 ·rw [if_pos (by omega), if_pos c, if_pos c, hp, c]
  simp
 ·rw [if_neg (by omega), if_pos (by omega), if_neg c, if_neg c, hp]
  congr 1
  ·omega
  ·omega
open Ieee in
theorem read_inf {a : Nat} (ha : a < 2 ^ 64) (he : eN a = 2047) (hr : rN a = 0) : double.read a = .infinity (sN a == 1) := by
 obtain ⟨h1, h2, h3, h4, h5, _⟩ := rung_of ha
 have hb : double.binade = 2 ^ 52 := rfl
 have hs : double.signWeight = 2 ^ 63 := rfl
 have hi : double.infRung = 2047 * 2 ^ 52 := by decide
 unfold Format.read
 simp only [hs, hb, h2, h1]
 rw [if_neg (by omega), if_neg (by omega), if_pos (by omega)]
open Ieee in
theorem nan_is {a : Nat} (ha : a < 2 ^ 64) : Rl.nan a = isN a := by
 obtain ⟨h1, h2, h3, h4, h5, _⟩ := rung_of ha
 have hb : double.binade = 2 ^ 52 := rfl
 have hs : double.signWeight = 2 ^ 63 := rfl
 have hi : double.infRung = 2047 * 2 ^ 52 := by decide
 unfold isN
 by_cases c : eN a = 2047
 ·by_cases d : rN a = 0
  ·unfold Rl.nan; rw [read_inf ha c d]; simp [Datum.isNaN, c, d]
  ·unfold Rl.nan Format.read
   simp only [hs, hb, h1]
   rw [if_neg (by omega), if_neg (by omega), if_neg (by omega)]
   simp [Datum.isNaN, c, d]
 ·unfold Rl.nan; rw [read_fin ha c]; simp [Datum.isNaN, c]
end
end Go.Proofs.YtakcpnpeadkfpaaGreatDoor.Lg
