/- SemEchoes: programs of bounds 71 to 72. -/
import Derived.Test.YtblciblkocameaaGreatEu
namespace Go.Proofs.YtblciblkocameaaGreat.Sx
open Go Go.Proofs.YtblciblkocameaaGreat.Ev
noncomputable section
theorem ran71 (r : Nat → Nat) (lt : ∀ i, r i ≤ 4294967295) : @Memo.Ran (rhoE r lt) tabY 900 12 (eE2 55 49 71) := ⟨by kernel_rfl, kE2, by kernel_rfl, by kernel_rfl⟩
theorem g71_0 : Runs 71 0 := runs ran71 (by kernel_rfl)
theorem g70_1 : Runs 70 1 := runs ran71 (by kernel_rfl)
theorem g69_2 : Runs 69 2 := runs ran71 (by kernel_rfl)
theorem g68_3 : Runs 68 3 := runs ran71 (by kernel_rfl)
theorem g67_4 : Runs 67 4 := runs ran71 (by kernel_rfl)
theorem ran72 (r : Nat → Nat) (lt : ∀ i, r i ≤ 4294967295) : @Memo.Ran (rhoE r lt) tabY 900 12 (eE2 55 50 72) := ⟨by kernel_rfl, kE2, by kernel_rfl, by kernel_rfl⟩
theorem g72_0 : Runs 72 0 := runs ran72 (by kernel_rfl)
theorem g71_1 : Runs 71 1 := runs ran72 (by kernel_rfl)
theorem g70_2 : Runs 70 2 := runs ran72 (by kernel_rfl)
theorem g69_3 : Runs 69 3 := runs ran72 (by kernel_rfl)
theorem g68_4 : Runs 68 4 := runs ran72 (by kernel_rfl)
end
end Go.Proofs.YtblciblkocameaaGreat.Sx
