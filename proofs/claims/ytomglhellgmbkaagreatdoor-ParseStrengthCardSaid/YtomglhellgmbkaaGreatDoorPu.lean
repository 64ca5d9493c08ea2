/- ParseStrength: only the remainders of the arguments matter; a run at two of them. -/
import Derived.Test.YtomglhellgmbkaaGreatDoorGu
set_option linter.unusedVariables false
set_option linter.unusedSimpArgs false
set_option linter.unusedSectionVars false
namespace Go.Proofs.YtomglhellgmbkaaGreatDoor.Sx
open Go Go.Proofs.YtomglhellgmbkaaGreatDoor.Ev
noncomputable section
def and2P (q p : Bool) : Bool := Bool.rec false p q
theorem and2P_eq (q p : Bool) (h : and2P q p = true) : q = true ∧ p = true := by
  cases q with
  | false => exact absurd h (by show ¬ false = true; simp)
  | true => exact ⟨rfl, h⟩
def oP (m : Int) (a b : Nat) : Bool := isTrue (S5_0 (SF tabA 999) 999 (Int.ofNat a) (Int.ofNat b) (h0G m))
theorem tmod18 (n : Nat) : Int.tmod (Int.ofNat n) (Int.ofNat 18) = Int.ofNat (n % 18) := rfl
theorem modP (D : CallD) (m x y : Nat) (h : HP) : S5_0 D m (.ofNat (x % 18)) (.ofNat (y % 18)) h = S5_0 D m (.ofNat x) (.ofNat y) h := by
  unfold S5_0; simp only [tmod18, Nat.mod_mod]
theorem enterP (m : Int) (x y : Nat) : SF tabA 1000 5 [.int .u8 (.ofNat x), .int .u8 (.ofNat y)] (h0G m) .no = S5_0 (SF tabA 999) 999 (.ofNat x) (.ofNat y) (h0G m) := by kernel_rfl
end
end Go.Proofs.YtomglhellgmbkaaGreatDoor.Sx
