/- LowerWords: the kernel's runs, part 1. -/
import Derived.Test.YtcoldhmbmcdemaaGreatWu
namespace Go.Proofs.YtcoldhmbmcdemaaGreat.Sx
open Go Go.Proofs.YtcoldhmbmcdemaaGreat.Ev
theorem gW1 (V : Nat → Nat → Nat → Int) (B : Nat → Nat → Nat → Bool) (a b : Nat) : oW V B 1 a b = eqQ (V 2 a b) (V 2 a b) := by kernel_rfl
theorem gW4 (V : Nat → Nat → Nat → Int) (B : Nat → Nat → Nat → Bool) (a b : Nat) : oW V B 4 a b = eqQ (V 16 a b) (V 16 a b) := by kernel_rfl
theorem gW7 (V : Nat → Nat → Nat → Int) (B : Nat → Nat → Nat → Bool) (a b : Nat) : oW V B 7 a b = eqQ (V 10 a b) (V 10 a b) := by kernel_rfl
theorem gW10 (V : Nat → Nat → Nat → Int) (B : Nat → Nat → Nat → Bool) (a b : Nat) : oW V B 10 a b = eqQ (V 4 a b) (V 4 a b) := by kernel_rfl
end Go.Proofs.YtcoldhmbmcdemaaGreat.Sx
