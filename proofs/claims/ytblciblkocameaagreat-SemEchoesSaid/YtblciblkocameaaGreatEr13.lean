/- SemEchoes: programs of bounds 73 to 74. -/
import Derived.Test.YtblciblkocameaaGreatEu
namespace Go.Proofs.YtblciblkocameaaGreat.Sx
open Go Go.Proofs.YtblciblkocameaaGreat.Ev
noncomputable section
theorem ran73 (r : Nat → Nat) (lt : ∀ i, r i ≤ 4294967295) : @Memo.Ran (rhoE r lt) tabY 900 12 (eE2 55 51 73) := ⟨by kernel_rfl, kE2, by kernel_rfl, by kernel_rfl⟩
theorem g73_0 : Runs 73 0 := runs ran73 (by kernel_rfl)
theorem g72_1 : Runs 72 1 := runs ran73 (by kernel_rfl)
theorem g71_2 : Runs 71 2 := runs ran73 (by kernel_rfl)
theorem g70_3 : Runs 70 3 := runs ran73 (by kernel_rfl)
theorem g69_4 : Runs 69 4 := runs ran73 (by kernel_rfl)
theorem ran74 (r : Nat → Nat) (lt : ∀ i, r i ≤ 4294967295) : @Memo.Ran (rhoE r lt) tabY 900 12 (eE2 55 52 74) := ⟨by kernel_rfl, kE2, by kernel_rfl, by kernel_rfl⟩
theorem g74_0 : Runs 74 0 := runs ran74 (by kernel_rfl)
theorem g73_1 : Runs 73 1 := runs ran74 (by kernel_rfl)
theorem g72_2 : Runs 72 2 := runs ran74 (by kernel_rfl)
theorem g71_3 : Runs 71 3 := runs ran74 (by kernel_rfl)
theorem g70_4 : Runs 70 4 := runs ran74 (by kernel_rfl)
end
end Go.Proofs.YtblciblkocameaaGreat.Sx
