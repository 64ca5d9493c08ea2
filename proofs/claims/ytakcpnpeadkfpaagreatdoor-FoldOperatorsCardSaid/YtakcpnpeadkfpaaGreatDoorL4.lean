/- Long numbers: what the printed functions of the reference answer: plus, small, minus, twice. -/
import Derived.Test.YtakcpnpeadkfpaaGreatDoorL3
set_option linter.unusedVariables false
set_option linter.unusedSimpArgs false
set_option linter.unusedSectionVars false
namespace Go.Proofs.YtakcpnpeadkfpaaGreatDoor.Lg
open Go Go.Proofs.YtakcpnpeadkfpaaGreatDoor.Ev Go.Proofs.YtakcpnpeadkfpaaGreatDoor.Sx
noncomputable section
theorem find129 : tabS.run 129 = S129 := by kernel_rfl
theorem find134 : tabS.run 134 = S134 := by kernel_rfl
theorem find128 : tabS.run 128 = S128 := by kernel_rfl
theorem find131 : tabS.run 131 = S131 := by kernel_rfl
theorem enter129 (D : CallD) (m : Nat) (a b : AV) (h : HP) : S129 D m [a, b] h .no = S129_2 D m a b h := rfl
theorem enter134 (D : CallD) (m : Nat) (a : AV) (b : Int) (h : HP) : S134 D m [a, vI b] h .no = S134_2 D m a b h := rfl
theorem enter128 (D : CallD) (m : Nat) (a : AV) (b : Int) (h : HP) : S128 D m [a, vI b] h .no = S128_6 D m a b h := rfl
theorem enter131 (D : CallD) (m : Nat) (a b : AV) (h : HP) : S131 D m [a, b] h .no = S131_4 D m a b h := rfl
theorem or_V {c : Bool} {X : Option AV} {d : Bool} (e : X = some (vB d)) (F : Bool → Res2) : obB (brV c (some (vB true)) X) F = F (c || d) := by subst e; exact or_B c d F
/-- What a call's own list becomes when it is trimmed and answered. -/
theorem trim_ret {h0 h : HP} {v : AV} {K N : Nat} (o : OwnL h0 h v (low K N)) (hK : K ≤ 100000000) (hN : N < 65536 ^ K) (n : Nat) (hn : K < n) :
  RetN (cal (SF tabS (n + 1)) 161 [v] h fun t42 h3 => some (.ret t42 h3, .no)) h0 N := by
 obtain ⟨v', e, x, y⟩ := sf_trim hK o.isL (nd_le.2 hN) n hn
 rw [cal_of e]
 exact ⟨v', h, rfl, o.2.1, o.2.2.1, x, fun c n e => by obtain ⟨k, q⟩ := y c n e; exact o.new c k q⟩
theorem plus_loop {h0 : HP} {va vb : AV} {a b : Nat} (xa : IsN h0 va a) (xb : IsN h0 vb b) (hb : nd a ≤ 10000000 ∧ nd b ≤ 10000000) (n M : Nat) (hn : max (nd a) (nd b) + 2 < n) : ∀ m i h v, OwnL h0 h v (low i (a + b)) → i ≤ max (nd a) (nd b) + 1 → max (nd a) (nd b) + 1 < i + m →
  RetN (nrec (fun _ _ _ _ _ _ => none) (fun _ g => S129_1b (SF tabS (n + 1)) M g) m va vb v (Int.ofNat (car a b i)) (Int.ofNat i) h) h0 (a + b) := by
 intro m
 induction m with
 | zero => intro i _ _ _ _ h; omega
 | succ m ih =>
  intro i h v o h1 h2
  show RetN (S129_1b (SF tabS (n + 1)) M (nrec (fun _ _ _ _ _ _ => none) (fun _ g => S129_1b (SF tabS (n + 1)) M g) m) va vb v (Int.ofNat (car a b i)) (Int.ofNat i) h) h0 (a + b)
  have ya := xa.mono o.2.2.1
  have yb := xb.mono o.2.2.1
  unfold S129_1b
  rw [lenN ya, asI_iv]
  simp only [lt_nat]
  rw [or_V (d := decide (i < nd b)) (by rw [lenVN yb, asIV_iv, lt_nat]), or_B, ← Bool.decide_or, ← Bool.decide_or, br_if]
  have c2 := car_lt a b i
  have da := dig_lt a i
  have db := dig_lt b i
  split
  ·rename_i g
   rw [cal_digit ya, asI_iv, cal_digit yb, asI_iv]
   simp only [add_nat]
   rw [wr_nat (n := dig a i + dig b i) (by omega)]
   simp only [add_nat]
   rw [wr_nat (n := dig a i + dig b i + car a b i) (by omega)]
   simp only [tmod_nat, tdiv_nat]
   rw [wf_nat (by omega), wr_nat (by omega), ← dig_sum, ← car_succ]
   obtain ⟨v', h', e1, o', _⟩ := app_own o (dig (a + b) i) (by rw [low_length]; omega)
   rw [e1]
   rw [← low_succ] at o'
   have hi : i ≤ max (nd a) (nd b) := by
    rcases Nat.lt_or_ge (max (nd a) (nd b)) i with q | q
    ·have : i = max (nd a) (nd b) + 1 := by omega
     have hc := car_end (a := a) (b := b) (i := max (nd a) (nd b)) (by omega) (by omega)
     rw [← this] at hc; omega
    ·exact q
   exact ih (i + 1) h' v' o' (by omega) (by omega)
  ·rename_i g
   unfold S129_0
   exact trim_ret o (by omega) (sum_end (by omega) (by omega) (by omega)) n (by omega)
theorem sf_plus {h : HP} (w : Wf h) {va vb : AV} {a b : Nat} (xa : IsN h va a) (xb : IsN h vb b) (hb : nd a ≤ 10000000 ∧ nd b ≤ 10000000) (n : Nat) (hn : max (nd a) (nd b) + 2 < n) : RetN (SF tabS (n + 2) 129 [va, vb] h .no) h (a + b) := by
 rw [SF_succ, find129, enter129]
 unfold S129_2 S129_1
 have := plus_loop xa xb hb n (n + 1) hn (n + 1) 0 h .nils (OwnL.nil w) (Nat.zero_le _) (by omega)
 rw [car_zero] at this
 exact this
theorem small_loop {h0 : HP} {va : AV} {a q : Nat} (xa : IsN h0 va a) (hb : nd a ≤ 10000000) (q1 : q ≤ 65536) (n M : Nat) (hn : nd a + 2 < n) : ∀ m i h v, OwnL h0 h v (low i (a * q)) → i ≤ nd a + 1 → nd a + 1 < i + m →
  RetN (nrec (fun _ _ _ _ _ _ => none) (fun _ g => S134_1b (SF tabS (n + 1)) M g) m va (Int.ofNat q) v (Int.ofNat (cam a q i)) (Int.ofNat i) h) h0 (a * q) := by
 intro m
 induction m with
 | zero => intro i _ _ _ _ h; omega
 | succ m ih =>
  intro i h v o h1 h2
  show RetN (S134_1b (SF tabS (n + 1)) M (nrec (fun _ _ _ _ _ _ => none) (fun _ g => S134_1b (SF tabS (n + 1)) M g) m) va (Int.ofNat q) v (Int.ofNat (cam a q i)) (Int.ofNat i) h) h0 (a * q)
  have ya := xa.mono o.2.2.1
  unfold S134_1b
  rw [lenN ya, asI_iv]
  simp only [lt_nat]
  rw [or_B, ← Bool.decide_or, br_if]
  have c2 := cam_le a q i
  have da := dig_lt a i
  have dq : dig a i * q ≤ 65535 * 65536 := Nat.mul_le_mul (by omega) q1
  split
  ·rename_i g
   rw [cal_digit ya, asI_iv]
   simp only [mul_nat]
   rw [wr_nat (n := dig a i * q) (by omega)]
   simp only [add_nat]
   rw [wr_nat (n := dig a i * q + cam a q i) (by omega)]
   simp only [tmod_nat, tdiv_nat]
   rw [wf_nat (by omega), wr_nat (by omega), ← dig_mul, ← cam_succ]
   obtain ⟨v', h', e1, o', _⟩ := app_own o (dig (a * q) i) (by rw [low_length]; omega)
   rw [e1]
   rw [← low_succ] at o'
   have hi : i ≤ nd a := by
    rcases Nat.lt_or_ge (nd a) i with r | r
    ·have : i = nd a + 1 := by omega
     have hc := cam_end (a := a) (q := q) (i := nd a) (Nat.le_refl _) q1
     rw [← this] at hc; omega
    ·exact r
   exact ih (i + 1) h' v' o' (by omega) (by omega)
  ·rename_i g
   unfold S134_0
   exact trim_ret o (by omega) (mul_end (by omega) (by omega)) n (by omega)
theorem sf_small {h : HP} (w : Wf h) {va : AV} {a q : Nat} (xa : IsN h va a) (hb : nd a ≤ 10000000) (q1 : q ≤ 65536) (n : Nat) (hn : nd a + 2 < n) : RetN (SF tabS (n + 2) 134 [va, iv q] h .no) h (a * q) := by
 rw [SF_succ, find134, enter134]
 unfold S134_2 S134_1
 have := small_loop xa hb q1 n (n + 1) hn (n + 1) 0 h .nils (OwnL.nil w) (Nat.zero_le _) (by omega)
 rw [cam_zero] at this
 exact this
end
end Go.Proofs.YtakcpnpeadkfpaaGreatDoor.Lg
