/- The document's word operations are chapter 1's: plain arithmetic. -/
import Derived.Test.YtakcpnpeadkfpaaGreatDoorTo
set_option linter.unusedVariables false
set_option linter.unusedSimpArgs false
namespace Go.Proofs.YtakcpnpeadkfpaaGreatDoor.Sx
open Go Go.Proofs.YtakcpnpeadkfpaaGreatDoor.Ev
set_option linter.unusedSectionVars false
noncomputable section
variable [Rho]
theorem wu32 (n : Int) : wrapF .u32 n = n % 4294967296 := by
 rw [wrapF_eq]; unfold IntKind.wrap; simp [IntKind.signed, IntKind.bits]
theorem wi64 (n : Int) (h1 : -9223372036854775808 ≤ n) (h2 : n ≤ 9223372036854775807) : wrapF .i64 n = n := by
 rw [wrapF_eq]; exact wrap_in _ _ (by simp [IntKind.min, IntKind.bits, IntKind.signed]; omega) (by simp [IntKind.max, IntKind.bits, IntKind.signed]; omega)
theorem wi32 (n : Int) : wrapF .i32 n = if n % 4294967296 ≥ 2147483648 then n % 4294967296 - 4294967296 else n % 4294967296 := by
 rw [wrapF_eq]; unfold IntKind.wrap; simp [IntKind.signed, IntKind.bits]
theorem wi32_u (n : Int) : wrapF .u32 (wrapF .i32 n) = wrapF .u32 n := by
 rw [wu32, wu32, wi32]; split <;> omega
theorem ltQ_dec (a b : Int) : ltQ a b = decide (a < b) := by rw [ltQ_eq, ltF_eq]
theorem leQ_dec (a b : Int) : leQ a b = decide (a ≤ b) := by rw [leQ_eq, leF_eq]
theorem eqQ_dec (a b : Int) : eqQ a b = decide (a = b) := by rw [eqQ_eq, eqF_eq]; rfl
/-- Signed: what a word means signed. -/
theorem sgn_eq (a : Nat) (h : a < 4294967296) : sgn (Int.ofNat a) = if (a : Int) ≥ 2147483648 then (a : Int) - 4294967296 else a := by
 have e : wrapF .i64 (Int.ofNat a) = (a : Int) := wi64 _ (by show _ ≤ (a : Int); omega) (by show (a : Int) ≤ _; omega)
 unfold sgn
 rw [e, leQ_dec]
 by_cases hc : (a : Int) ≥ 2147483648
 ·rw [if_pos hc, decide_eq_true (show Int.ofNat 2147483648 ≤ (a : Int) from hc)]
  show wrQ .i64 ((a : Int) - Int.ofNat 4294967296) = _
  rw [wrQ_eq]; exact wi64 _ (by show _ ≤ (a : Int) - 4294967296; omega) (by show (a : Int) - 4294967296 ≤ _; omega)
 ·rw [if_neg hc, decide_eq_false (show ¬ Int.ofNat 2147483648 ≤ (a : Int) from hc)]
theorem sgn_i32 (a : Nat) (h : a < 4294967296) : sgn (Int.ofNat a) = wrapF .i32 (Int.ofNat a) := by
 rw [sgn_eq a h, wi32]
 have : Int.ofNat a % 4294967296 = (a : Int) := by show (a : Int) % _ = _; omega
 rw [this]
theorem tmod_pos (x : Int) (h : 0 ≤ x) (m : Int) : Int.tmod x m = x % m := Int.tmod_eq_emod_of_nonneg h
theorem ofw_eq (x : Int) (h1 : -4611686018427387904 < x) (h2 : x < 4611686018427387904) : ofw x = x % 4294967296 := by
 unfold ofw
 rw [ltQ_dec, wu32]
 by_cases hx : 0 ≤ x
 ·have e : Int.tmod x (Int.ofNat 4294967296) = x % 4294967296 := tmod_pos x hx _
  rw [e, decide_eq_false (show ¬ x % 4294967296 < Int.ofNat 0 by show ¬ x % 4294967296 < 0; omega)]
  show x % 4294967296 % 4294967296 = _; omega
 ·have e : Int.tmod x (Int.ofNat 4294967296) = -((-x) % 4294967296) := by
   have : x = -(-x) := by omega
   rw [this, Int.neg_tmod, tmod_pos (-x) (by omega)]; simp
  rw [e]
  by_cases hc : -((-x) % 4294967296) < Int.ofNat 0
  ·rw [decide_eq_true hc]
   show wrQ .i64 (addQ (-((-x) % 4294967296)) (Int.ofNat 4294967296)) % 4294967296 = _
   rw [wrQ_eq, addQ_eq, addF_eq, wi64 _ (by show _ ≤ -((-x) % 4294967296) + 4294967296; omega) (by show -((-x) % 4294967296) + 4294967296 ≤ _; omega)]
   show (-((-x) % 4294967296) + 4294967296) % 4294967296 = _; omega
  ·rw [decide_eq_false hc]
   have hc : ¬ -((-x) % 4294967296) < 0 := hc
   show -((-x) % 4294967296) % 4294967296 = _; omega
/- bit by bit -/
theorem shr_bit (a : Nat) (i : Nat) (hi : i < 32) : Int.tmod ((Int.ofNat a).fdiv (2 ^ (min i 32))) (Int.ofNat 2) = Int.ofNat (a / 2 ^ i % 2) := by
 have e : min i 32 = i := by omega
 rw [e]
 have e2 : (2 : Int) ^ i = Int.ofNat (2 ^ i) := by simp
 rw [e2, show (Int.ofNat a).fdiv (Int.ofNat (2 ^ i)) = Int.ofNat (a / 2 ^ i) from (Int.ofNat_fdiv a (2 ^ i)).symm]; rfl
def opN (how a b : Nat) : Nat := match how with | 1 => a ^^^ b | 2 => a ||| b | _ => a &&& b
theorem bit_cases (x : Nat) : x % 2 = 0 ∨ x % 2 = 1 := by omega
theorem bit_op (how a b i : Nat) (hh : how = 1 ∨ how = 2 ∨ how = 3) : zc (Int.ofNat how) (Int.ofNat (a / 2 ^ i % 2)) (Int.ofNat (b / 2 ^ i % 2)) = decide (opN how a b / 2 ^ i % 2 = 1) := by
 have h1 : ∀ x, decide (x / 2 ^ i % 2 = 1) = x.testBit i := fun x => by rw [Nat.testBit_eq_decide_div_mod_eq]
 rw [h1]
 have ha : a.testBit i = decide (a / 2 ^ i % 2 = 1) := (h1 a).symm
 have hb : b.testBit i = decide (b / 2 ^ i % 2 = 1) := (h1 b).symm
 rcases hh with rfl | rfl | rfl <;> rcases bit_cases (a / 2 ^ i) with ea | ea <;> rcases bit_cases (b / 2 ^ i) with eb | eb <;>
  (simp only [opN, Nat.testBit_xor, Nat.testBit_or, Nat.testBit_and, ha, hb, ea, eb]; rfl)
theorem mod_succ (x i : Nat) : x % 2 ^ (i + 1) = x % 2 ^ i + 2 ^ i * (x / 2 ^ i % 2) := by
 rw [Nat.pow_succ, Nat.mod_mul]
theorem bstep_eq (how a b i : Nat) (hi : i < 32) (hh : how = 1 ∨ how = 2 ∨ how = 3) : bstep (Int.ofNat how) (Int.ofNat a) (Int.ofNat b) i (Int.ofNat (opN how a b % 2 ^ i)) = Int.ofNat (opN how a b % 2 ^ (i + 1)) := by
 unfold bstep
 rw [shr_bit a i hi, shr_bit b i hi, bit_op how a b i hh]
 have e : min i 32 = i := by omega
 have e2 : (2 : Int) ^ i = Int.ofNat (2 ^ i) := by simp
 have hp : 2 ^ (i + 1) ≤ 2 ^ 32 := Nat.pow_le_pow_right (by omega) (by omega)
 have hps : 2 ^ (i + 1) = 2 ^ i * 2 := Nat.pow_succ ..
 have hpos := Nat.two_pow_pos i
 have hl : opN how a b % 2 ^ i < 2 ^ i := Nat.mod_lt _ hpos
 rw [e, e2, mod_succ]
 rcases bit_cases (opN how a b / 2 ^ i) with eb | eb
 ·rw [eb, decide_eq_false (by omega)]
  show wrQ .u32 (addQ (Int.ofNat (opN how a b % 2 ^ i)) (IntKind.u32.wrap (Int.ofNat 0 * Int.ofNat (2 ^ i)))) = _
  have : IntKind.u32.wrap (Int.ofNat 0 * Int.ofNat (2 ^ i)) = Int.ofNat 0 := by rw [← wrapF_eq, wu32]; simp
  rw [this]
  show wrQ .u32 (Int.ofNat (opN how a b % 2 ^ i + 0)) = _
  rw [Nat.mul_zero]; exact wrQ_nat (by show _ ≤ 4294967295; omega)
 ·rw [eb, decide_eq_true rfl]
  show wrQ .u32 (addQ (Int.ofNat (opN how a b % 2 ^ i)) (IntKind.u32.wrap (Int.ofNat 1 * Int.ofNat (2 ^ i)))) = _
  have : IntKind.u32.wrap (Int.ofNat 1 * Int.ofNat (2 ^ i)) = Int.ofNat (2 ^ i) := by
   rw [show Int.ofNat 1 * Int.ofNat (2 ^ i) = Int.ofNat (2 ^ i) from by simp, ← wrapF_eq]; exact wrapF_nat (by show _ ≤ 4294967295; omega)
  rw [this]
  show wrQ .u32 (Int.ofNat (opN how a b % 2 ^ i + 2 ^ i)) = _
  rw [Nat.mul_one]; exact wrQ_nat (by show _ ≤ 4294967295; omega)
theorem btw_eq (how a b : Nat) (hh : how = 1 ∨ how = 2 ∨ how = 3) : ∀ k i, i + k = 32 → btw (Int.ofNat how) (Int.ofNat a) (Int.ofNat b) k i (Int.ofNat (opN how a b % 2 ^ i)) = Int.ofNat (opN how a b % 2 ^ 32)
 | 0, i, hi => by have : i = 32 := by omega
                  subst this; rfl
 | k + 1, i, hi => by
  show btw _ _ _ k (i + 1) (bstep _ _ _ i _) = _
  rw [bstep_eq how a b i (by omega) hh]
  exact btw_eq how a b hh k (i + 1) (by omega)
theorem bits_eq (how a b : Nat) (hh : how = 1 ∨ how = 2 ∨ how = 3) : btw (Int.ofNat how) (Int.ofNat a) (Int.ofNat b) 32 0 (Int.ofNat 0) = Int.ofNat (opN how a b % 4294967296) := by
 have := btw_eq how a b hh 32 0 rfl
 rw [Nat.pow_zero, Nat.mod_one] at this
 exact this
/- floor -/
theorem flr_eq (x : Int) (k : Nat) (hk : k ≤ 32) (h1 : -4611686018427387904 < x) (h2 : x < 4611686018427387904) : flr x (Int.ofNat (2 ^ k)) = x.fdiv (2 ^ k) := by
 have hp : 2 ^ k ≤ 2 ^ 32 := Nat.pow_le_pow_right (by omega) hk
 have hpos := Nat.two_pow_pos k
 have e2 : (2 : Int) ^ k = Int.ofNat (2 ^ k) := by simp
 rw [e2]
 generalize hy : 2 ^ k = y at *
 show flr x (y : Int) = x.fdiv (y : Int)
 have hy0 : (0 : Int) ≤ (y : Int) := by omega
 rw [Int.fdiv_eq_ediv_of_nonneg _ hy0]
 unfold flr
 rw [ltQ_dec]
 by_cases hx : 0 ≤ x
 ·have e3 : Int.tdiv x (y : Int) = x / y := Int.tdiv_eq_ediv_of_nonneg hx
  have e4 : Int.tmod x (y : Int) = x % y := tmod_pos x hx _
  have h3 : 0 ≤ x % (y : Int) := Int.emod_nonneg _ (by omega)
  have h4 : 0 ≤ x / (y : Int) := Int.ediv_nonneg hx hy0
  have h5 : x / (y : Int) ≤ x := Int.ediv_le_self _ hx
  rw [e3, e4, decide_eq_false (show ¬ x % (y : Int) < Int.ofNat 0 from by show ¬ x % (y : Int) < 0; omega)]
  exact wi64 _ (by omega) (by omega)
 ·have ex : x = -(-x) := by omega
  generalize hn : -x = n at *
  have hn0 : 0 ≤ n := by omega
  subst ex
  have e3 : Int.tdiv (-n) (y : Int) = -(n / y) := by rw [Int.neg_tdiv, Int.tdiv_eq_ediv_of_nonneg hn0]
  have e4 : Int.tmod (-n) (y : Int) = -(n % y) := by rw [Int.neg_tmod, tmod_pos n hn0]
  have h3 : 0 ≤ n % (y : Int) := Int.emod_nonneg _ (by omega)
  have h4 : 0 ≤ n / (y : Int) := Int.ediv_nonneg hn0 hy0
  have h5 : n / (y : Int) ≤ n := Int.ediv_le_self _ hn0
  have h6 := Int.mul_ediv_add_emod n (y : Int)
  have h7 : n % (y : Int) < y := Int.emod_lt_of_pos _ (by omega)
  rw [e3, e4, wi64 _ (by omega) (by omega)]
  by_cases hc : -(n % (y : Int)) < Int.ofNat 0
  ·rw [decide_eq_true hc]
   have hc : -(n % (y : Int)) < 0 := hc
   show wrQ .i64 (-(n / (y : Int)) - Int.ofNat 1) = _
   rw [wrQ_eq, wi64 _ (by show _ ≤ -(n / (y : Int)) - 1; omega) (by show -(n / (y : Int)) - 1 ≤ _; omega)]
   show -(n / (y : Int)) - 1 = -n / (y : Int)
   have h9 := ((Int.ediv_emod_unique (a := -n) (b := (y : Int)) (r := (y : Int) - n % (y : Int)) (q := -(n / (y : Int)) - 1) (by omega)).2 ⟨by
    rw [Int.mul_sub, Int.mul_neg, Int.mul_one]; omega, by omega, by omega⟩).1
   exact h9.symm
  ·rw [decide_eq_false hc]
   have hc : ¬ -(n % (y : Int)) < 0 := hc
   have h8 : n % (y : Int) = 0 := by omega
   show -(n / (y : Int)) = -n / (y : Int)
   rw [Int.neg_ediv_of_dvd (Int.dvd_of_emod_eq_zero h8)]
end
end Go.Proofs.YtakcpnpeadkfpaaGreatDoor.Sx
