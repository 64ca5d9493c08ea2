/- LowerWords: the kernel's runs, part 2. -/
import Derived.Test.YtcoldhmbmcdemaaGreatWu
namespace Go.Proofs.YtcoldhmbmcdemaaGreat.Sx
open Go Go.Proofs.YtcoldhmbmcdemaaGreat.Ev
theorem gW2 (V : Nat → Nat → Nat → Int) (B : Nat → Nat → Nat → Bool) (a b : Nat) : oW V B 2 a b = eqQ (V 11 a b) (V 11 a b) := by kernel_rfl
theorem gW5 (V : Nat → Nat → Nat → Int) (B : Nat → Nat → Nat → Bool) (a b : Nat) : oW V B 5 a b = eqQ (V 3 a b) (V 3 a b) := by kernel_rfl
theorem gW8 (V : Nat → Nat → Nat → Int) (B : Nat → Nat → Nat → Bool) (a b : Nat) : oW V B 8 a b = eqQ (V 9 a b) (V 9 a b) := by kernel_rfl
end Go.Proofs.YtcoldhmbmcdemaaGreat.Sx
