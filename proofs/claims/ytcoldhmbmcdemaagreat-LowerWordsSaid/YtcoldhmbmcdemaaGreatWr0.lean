/- LowerWords: the kernel's runs, part 0. -/
import Derived.Test.YtcoldhmbmcdemaaGreatWu
namespace Go.Proofs.YtcoldhmbmcdemaaGreat.Sx
open Go Go.Proofs.YtcoldhmbmcdemaaGreat.Ev
theorem gW0 (V : Nat → Nat → Nat → Int) (B : Nat → Nat → Nat → Bool) (a b : Nat) : oW V B 0 a b = eqQ (V 1 a b) (V 1 a b) := by kernel_rfl
theorem gW3 (V : Nat → Nat → Nat → Int) (B : Nat → Nat → Nat → Bool) (a b : Nat) : oW V B 3 a b = eqQ (V 14 a b) (V 14 a b) := by kernel_rfl
theorem gW6 (V : Nat → Nat → Nat → Int) (B : Nat → Nat → Nat → Bool) (a b : Nat) : oW V B 6 a b = eqQ (V 8 a b) (V 8 a b) := by kernel_rfl
theorem gW9 (V : Nat → Nat → Nat → Int) (B : Nat → Nat → Nat → Bool) (a b : Nat) : oW V B 9 a b = eqQ (V 6 a b) (V 6 a b) := by kernel_rfl
end Go.Proofs.YtcoldhmbmcdemaaGreat.Sx
