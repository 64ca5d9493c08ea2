/- SemOrder: only the remainders of the arguments matter; a run at two of them. -/
import Derived.Test.YtblciblkocameaaGreatSt
set_option linter.unusedVariables false
set_option linter.unusedSimpArgs false
namespace Go.Proofs.YtblciblkocameaaGreat.Sx
open Go Go.Proofs.YtblciblkocameaaGreat.Ev
noncomputable section
def and2O (q p : Bool) : Bool := Bool.rec false p q
theorem and2O_eq (q p : Bool) (h : and2O q p = true) : q = true ∧ p = true := by
  cases q with
  | false => exact absurd h (by show ¬ false = true; simp)
  | true => exact ⟨rfl, h⟩
def o9 (a b : Nat) : Bool := isTrue (S9_0 (SF tabS 999) 999 (Int.ofNat a) (Int.ofNat b) ⟨.h, .leaf⟩)
theorem tmod8 (n : Nat) : Int.tmod (Int.ofNat n) (Int.ofNat 8) = Int.ofNat (n % 8) := rfl
theorem tmod4 (n : Nat) : Int.tmod (Int.ofNat n) (Int.ofNat 4) = Int.ofNat (n % 4) := rfl
theorem mod9 (D : CallD) (m x y : Nat) (h : HP) : S9_0 D m (.ofNat (x % 8)) (.ofNat (y % 4)) h = S9_0 D m (.ofNat x) (.ofNat y) h := by
  unfold S9_0; simp only [tmod8, tmod4, Nat.mod_mod]
theorem enter9 (x y : Nat) : SF tabS 1000 9 [.int .u8 (.ofNat x), .int .u8 (.ofNat y)] ⟨.h, .leaf⟩ .no = S9_0 (SF tabS 999) 999 (.ofNat x) (.ofNat y) ⟨.h, .leaf⟩ := by kernel_rfl
end
end Go.Proofs.YtblciblkocameaaGreat.Sx
