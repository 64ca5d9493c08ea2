/- SemEchoes: programs of bounds 69 to 70. -/
import Derived.Test.YtblciblkocameaaGreatEu
namespace Go.Proofs.YtblciblkocameaaGreat.Sx
open Go Go.Proofs.YtblciblkocameaaGreat.Ev
noncomputable section
theorem ran69 (r : Nat → Nat) (lt : ∀ i, r i ≤ 4294967295) : @Memo.Ran (rhoE r lt) tabY 900 12 (eE2 54 57 69) := ⟨by kernel_rfl, kE2, by kernel_rfl, by kernel_rfl⟩
theorem g69_0 : Runs 69 0 := runs ran69 (by kernel_rfl)
theorem g68_1 : Runs 68 1 := runs ran69 (by kernel_rfl)
theorem g67_2 : Runs 67 2 := runs ran69 (by kernel_rfl)
theorem g66_3 : Runs 66 3 := runs ran69 (by kernel_rfl)
theorem g65_4 : Runs 65 4 := runs ran69 (by kernel_rfl)
theorem ran70 (r : Nat → Nat) (lt : ∀ i, r i ≤ 4294967295) : @Memo.Ran (rhoE r lt) tabY 900 12 (eE2 55 48 70) := ⟨by kernel_rfl, kE2, by kernel_rfl, by kernel_rfl⟩
theorem g70_0 : Runs 70 0 := runs ran70 (by kernel_rfl)
theorem g69_1 : Runs 69 1 := runs ran70 (by kernel_rfl)
theorem g68_2 : Runs 68 2 := runs ran70 (by kernel_rfl)
theorem g67_3 : Runs 67 3 := runs ran70 (by kernel_rfl)
theorem g66_4 : Runs 66 4 := runs ran70 (by kernel_rfl)
end
end Go.Proofs.YtblciblkocameaaGreat.Sx
