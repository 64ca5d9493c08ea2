/- The reference's comparison of reals. -/
import Derived.Test.YtakcpnpeadkfpaaGreatDoorLB
set_option linter.unusedVariables false
set_option linter.unusedSimpArgs false
set_option linter.unusedSectionVars false
namespace Go.Proofs.YtakcpnpeadkfpaaGreatDoor.Lg
open Go Go.Proofs.YtakcpnpeadkfpaaGreatDoor.Ev Go.Proofs.YtakcpnpeadkfpaaGreatDoor.Sx
noncomputable section
def mag (a : Nat) : Nat := mN a * 2 ^ (pN a + 1074).toNat
def xN (a : Nat) : Nat := a % 9223372036854775808
theorem xN_eq {a : Nat} (ha : a < 2 ^ 64) : xN a = eN a * 4503599627370496 + rN a := (rung_of ha).1
theorem mag_mono {a b : Nat} (ha : a < 2 ^ 64) (hb : b < 2 ^ 64) (h : xN a < xN b) : mag a < mag b := by
 have xa := xN_eq ha
 have xb := xN_eq hb
 have ra : rN a < 4503599627370496 := Nat.mod_lt _ (by omega)
 have rb : rN b < 4503599627370496 := Nat.mod_lt _ (by omega)
 unfold mag mN pN
 by_cases e0 : eN a = 0
 ·rw [if_pos e0, if_pos e0, show ((-1074 : Int) + 1074).toNat = 0 by decide, Nat.pow_zero, Nat.mul_one]
  by_cases e1 : eN b = 0
  ·rw [if_pos e1, if_pos e1, show ((-1074 : Int) + 1074).toNat = 0 by decide, Nat.pow_zero, Nat.mul_one]
   rw [e0] at xa; rw [e1] at xb; omega
  ·rw [if_neg e1, if_neg e1]
   have : rN b + 4503599627370496 ≤ (rN b + 4503599627370496) * 2 ^ ((eN b : Int) - 1075 + 1074).toNat := Nat.le_mul_of_pos_right _ (Nat.two_pow_pos _)
   omega
 ·have e1 : eN b ≠ 0 := fun c => by rw [c] at xb; omega
  rw [if_neg e0, if_neg e0, if_neg e1, if_neg e1]
  have ea : ((eN a : Int) - 1075 + 1074).toNat = eN a - 1 := by omega
  have eb : ((eN b : Int) - 1075 + 1074).toNat = eN b - 1 := by omega
  rw [ea, eb]
  rcases (show eN a = eN b ∨ eN a < eN b by omega) with g | g
  ·rw [g]
   rw [g] at xa
   exact Nat.mul_lt_mul_of_pos_right (by omega) (Nat.two_pow_pos _)
  ·obtain ⟨k, hk⟩ : ∃ k, eN b - 1 = (eN a - 1) + (k + 1) := ⟨eN b - eN a - 1, by omega⟩
   have hx : 2 ^ (eN b - 1) = 2 ^ (eN a - 1) * (2 * 2 ^ k) := by rw [hk, Nat.pow_add, Nat.pow_succ 2 k, Nat.mul_comm (2 ^ k)]
   rw [hx]
   have hp := Nat.two_pow_pos (eN a - 1)
   generalize 2 ^ (eN a - 1) = P at *
   have h2 : P * 2 ≤ P * (2 * 2 ^ k) := Nat.mul_le_mul_left _ (Nat.le_mul_of_pos_right _ (Nat.two_pow_pos k))
   calc (rN a + 4503599627370496) * P < 9007199254740992 * P := Nat.mul_lt_mul_of_pos_right (by omega) hp
    _ = 4503599627370496 * (P * 2) := by omega
    _ ≤ (rN b + 4503599627370496) * (P * 2) := Nat.mul_le_mul_right _ (by omega)
    _ ≤ _ := Nat.mul_le_mul_left _ h2
theorem mag_same {a b : Nat} (ha : a < 2 ^ 64) (hb : b < 2 ^ 64) (h : xN a = xN b) : mag a = mag b := by
 have xa := xN_eq ha
 have xb := xN_eq hb
 have ra : rN a < 4503599627370496 := Nat.mod_lt _ (by omega)
 have rb : rN b < 4503599627370496 := Nat.mod_lt _ (by omega)
 have e1 : eN a = eN b := by omega
 have e2 : rN a = rN b := by omega
 unfold mag mN pN; rw [e1, e2]
theorem mag_zero {a : Nat} (ha : a < 2 ^ 64) : mag a = 0 ↔ xN a = 0 := by
 have hp := Nat.two_pow_pos (pN a + 1074).toNat
 unfold mag
 rw [Nat.mul_eq_zero]
 have := x_zero ha
 have e : xN a = a % 9223372036854775808 := rfl
 rw [e, this]
 omega
open Ieee in
theorem key_fin {a : Nat} (ha : a < 2 ^ 64) (g : eN a ≠ 2047) : Rl.cls (double.read a) = 0 ∧ Rl.val double.leastPlace (double.read a) = if sN a = 1 then -(mag a : Int) else mag a := by
 have hl : double.leastPlace = -1074 := by decide
 rw [read_fin ha g]
 refine ⟨rfl, ?_⟩
 show signed _ _ _ = _
 rw [signed_up, hl]
 have : (pN a - -1074).toNat = (pN a + 1074).toNat := by congr 1
 rw [this]
 rcases sN_01 ha with s | s <;> simp [s, mag]
open Ieee in
theorem key_inf {a : Nat} (ha : a < 2 ^ 64) (g : eN a = 2047) (r : rN a = 0) : Rl.cls (double.read a) = (if sN a = 1 then -1 else 1) ∧ Rl.val double.leastPlace (double.read a) = 0 := by
 rw [read_inf ha g r]
 refine ⟨?_, rfl⟩
 rcases sN_01 ha with s | s <;> rw [s] <;> rfl
theorem orI_eq (a : Nat) : orI a = if sN a = 1 then -(xN a : Int) else xN a := rfl
theorem order_is {a b : Nat} (ha : a < 2 ^ 64) (hb : b < 2 ^ 64) (na : isN a = false) (nb : isN b = false) : (Rl.lt a b = true ↔ orI a < orI b) ∧ (Rl.eq a b = true ↔ orI a = orI b) := by
 have l1 := Rl.lt_iff (a := a) (b := b) (by rw [nan_is ha]; exact na) (by rw [nan_is hb]; exact nb)
 have l2 := Rl.eq_iff (a := a) (b := b) (by rw [nan_is ha]; exact na) (by rw [nan_is hb]; exact nb)
 rw [l1, l2, orI_eq, orI_eq]
 have xa := xN_eq ha
 have xb := xN_eq hb
 have e1 : eN a < 2048 := Nat.mod_lt _ (by omega)
 have e2 : eN b < 2048 := Nat.mod_lt _ (by omega)
 have ra : rN a < 4503599627370496 := Nat.mod_lt _ (by omega)
 have rb : rN b < 4503599627370496 := Nat.mod_lt _ (by omega)
 by_cases ga : eN a = 2047
 ·have r1 := isN_inf na ga
  obtain ⟨k1, k2⟩ := key_inf ha ga r1
  by_cases gb : eN b = 2047
  ·have r2 := isN_inf nb gb
   obtain ⟨k3, k4⟩ := key_inf hb gb r2
   rw [k1, k2, k3, k4]
   rcases sN_01 ha with s | s <;> rcases sN_01 hb with t | t <;> simp [s, t] <;> omega
  ·obtain ⟨k3, k4⟩ := key_fin hb gb
   rw [k1, k2, k3, k4]
   rcases sN_01 ha with s | s <;> rcases sN_01 hb with t | t <;> simp [s, t] <;> omega
 ·obtain ⟨k1, k2⟩ := key_fin ha ga
  by_cases gb : eN b = 2047
  ·have r2 := isN_inf nb gb
   obtain ⟨k3, k4⟩ := key_inf hb gb r2
   rw [k1, k2, k3, k4]
   rcases sN_01 ha with s | s <;> rcases sN_01 hb with t | t <;> simp [s, t] <;> omega
  ·obtain ⟨k3, k4⟩ := key_fin hb gb
   have z1 := mag_zero ha
   have z2 := mag_zero hb
   have o1 : xN a < xN b → mag a < mag b := mag_mono ha hb
   have o2 : xN b < xN a → mag b < mag a := mag_mono hb ha
   have o3 : xN a = xN b → mag a = mag b := mag_same ha hb
   rw [k1, k2, k3, k4]
   rcases sN_01 ha with s | s <;> rcases sN_01 hb with t | t <;> simp [s, t] <;> omega
/-- The comparison of two words. -/
def cpW (op : Nat) (a b : Nat) : Bool := if op = 51 then Rl.eq a b else if op = 52 then Rl.lt a b else Rl.le a b
theorem cp_nan {a b : Nat} (ha : a < 2 ^ 64) (hb : b < 2 ^ 64) (h : (isN a || isN b) = true) (op : Nat) : cpW op a b = false := by
 have k : (Ieee.double.read a).order (Ieee.double.read b) = none := by
  rw [Bool.or_eq_true] at h
  rcases h with h | h
  ·exact Rl.order_nan_left (by rw [nan_is ha]; exact h)
  ·exact Rl.order_nan_right (by rw [nan_is hb]; exact h)
 have e1 : Rl.lt a b = false := by unfold Rl.lt; rw [k]; rfl
 have e2 : Rl.eq a b = false := by unfold Rl.eq; rw [k]; rfl
 unfold cpW Rl.le
 rw [e1, e2]
 split
 ·rfl
 ·split <;> rfl
abbrev wv (n : Nat) : AV := AV.int .u32 (Int.ofNat n)
theorem or_V' {c : Bool} {X : Option AV} {d : Bool} (e : X = some (vB d)) (F : Bool → Res2) : obB (brV c X (some (vB false))) F = F (c && d) := by subst e; exact and_B c d F
theorem sf_Cmp {op a b : Nat} (h1 : 51 ≤ op) (h2 : op ≤ 53) (ha : a < 2 ^ 64) (hb : b < 2 ^ 64) (n : Nat) (h : HP) : SF tabS (n + 4) 61 [iv op, uv a, uv b] h .no = some (.ret (.tup [wv (cpW op a b).toNat, vB true]) h, .no) := by
 rw [SF_succ, find61, enter61]
 unfold S61_3
 simp only [lt_nat]
 rw [decide_eq_false (by omega : ¬ op < 51), decide_eq_false (by omega : ¬ 53 < op)]
 rw [brV_f, obB_s, br_f, cal_of (sf_isN ha (n + 1) h), asB_v, br_b]
 have nan : (isN a || isN b) = true → some (Fin.ret (AV.tup [vW (Int.ofNat 0), vB true]) h, AMode.no) = some (Fin.ret (AV.tup [wv (cpW op a b).toNat, vB true]) h, AMode.no) := fun g => by
  rw [cp_nan ha hb g]; rfl
 by_cases e : isN a = true
 ·rw [if_pos e]
  unfold S61_1
  rw [br_t]
  exact nan (by rw [e, Bool.true_or])
 ·rw [if_neg e, cal_of (sf_isN hb (n + 1) h), asB_v]
  unfold S61_1
  rw [br_b]
  by_cases e2 : isN b = true
  ·rw [if_pos e2]
   exact nan (by rw [e2, Bool.or_true])
  ·rw [if_neg e2]
   have na := Bool.eq_false_iff.2 e
   have nb := Bool.eq_false_iff.2 e2
   obtain ⟨k1, k2⟩ := order_is ha hb na nb
   unfold S61_0
   rw [cal_of (sf_order ha (n + 1) h), asI_iv, cal_of (sf_order hb (n + 1) h), asI_iv]
   simp only [eq_nat, eq_dec, lt_dec, le_dec]
   have fin : ∀ c : Bool, c = cpW op a b → br c (some (Fin.ret (AV.tup [vW (Int.ofNat 1), vB true]) h, AMode.no)) (some (Fin.ret (AV.tup [vW (Int.ofNat 0), vB true]) h, AMode.no)) = some (Fin.ret (AV.tup [wv (cpW op a b).toNat, vB true]) h, AMode.no) := fun c hc => by
    rw [← hc]; cases c <;> rfl
   rcases (show op = 51 ∨ op = 52 ∨ op = 53 by omega) with rfl | rfl | rfl
   ·simp only [Nat.reduceEqDiff, decide_true, decide_false, brV_t, brV_f, obB_s, obBV_s]
    have : decide (orI a = orI b) = cpW 51 a b := by
     show _ = Rl.eq a b
     rw [Bool.eq_iff_iff, decide_eq_true_iff]; exact k2.symm
    rw [this]
    cases hc : cpW 51 a b <;> (try simp only [brV_t, brV_f, obB_s, obBV_s, br_t, br_f]) <;> rfl
   ·simp only [Nat.reduceEqDiff, decide_true, decide_false, brV_t, brV_f, obB_s, obBV_s]
    have : decide (orI a < orI b) = cpW 52 a b := by
     show _ = Rl.lt a b
     rw [Bool.eq_iff_iff, decide_eq_true_iff]; exact k1.symm
    rw [this]
    cases hc : cpW 52 a b <;> (try simp only [brV_t, brV_f, obB_s, obBV_s, br_t, br_f]) <;> rfl
   ·simp only [Nat.reduceEqDiff, decide_true, decide_false, brV_t, brV_f, obB_s, obBV_s]
    have : decide (orI a ≤ orI b) = cpW 53 a b := by
     show _ = (Rl.lt a b || Rl.eq a b)
     rw [Bool.eq_iff_iff, decide_eq_true_iff, Bool.or_eq_true, k1, k2]; omega
    rw [this]
    cases hc : cpW 53 a b <;> (try simp only [brV_t, brV_f, obB_s, obBV_s, br_t, br_f]) <;> rfl
end
end Go.Proofs.YtakcpnpeadkfpaaGreatDoor.Lg
