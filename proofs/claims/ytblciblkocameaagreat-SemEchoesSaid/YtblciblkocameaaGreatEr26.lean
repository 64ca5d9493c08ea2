/- SemEchoes: programs of bounds 99 to 100. -/
import Derived.Test.YtblciblkocameaaGreatEu
namespace Go.Proofs.YtblciblkocameaaGreat.Sx
open Go Go.Proofs.YtblciblkocameaaGreat.Ev
noncomputable section
theorem ran99 (r : Nat → Nat) (lt : ∀ i, r i ≤ 4294967295) : @Memo.Ran (rhoE r lt) tabY 900 12 (eE2 57 57 99) := ⟨by kernel_rfl, kE2, by kernel_rfl, by kernel_rfl⟩
theorem g99_0 : Runs 99 0 := runs ran99 (by kernel_rfl)
theorem g98_1 : Runs 98 1 := runs ran99 (by kernel_rfl)
theorem g97_2 : Runs 97 2 := runs ran99 (by kernel_rfl)
theorem g96_3 : Runs 96 3 := runs ran99 (by kernel_rfl)
theorem g95_4 : Runs 95 4 := runs ran99 (by kernel_rfl)
theorem ran100 (r : Nat → Nat) (lt : ∀ i, r i ≤ 4294967295) : @Memo.Ran (rhoE r lt) tabY 900 12 (eE3 48 100) := ⟨by kernel_rfl, kE3, by kernel_rfl, by kernel_rfl⟩
theorem g100_0 : Runs 100 0 := runs ran100 (by kernel_rfl)
theorem g99_1 : Runs 99 1 := runs ran100 (by kernel_rfl)
theorem g98_2 : Runs 98 2 := runs ran100 (by kernel_rfl)
theorem g97_3 : Runs 97 3 := runs ran100 (by kernel_rfl)
theorem g96_4 : Runs 96 4 := runs ran100 (by kernel_rfl)
end
end Go.Proofs.YtblciblkocameaaGreat.Sx
