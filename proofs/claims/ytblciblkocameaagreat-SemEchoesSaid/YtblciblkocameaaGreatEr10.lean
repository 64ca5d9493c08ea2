/- SemEchoes: programs of bounds 67 to 68. -/
import Derived.Test.YtblciblkocameaaGreatEu
namespace Go.Proofs.YtblciblkocameaaGreat.Sx
open Go Go.Proofs.YtblciblkocameaaGreat.Ev
noncomputable section
theorem ran67 (r : Nat → Nat) (lt : ∀ i, r i ≤ 4294967295) : @Memo.Ran (rhoE r lt) tabY 900 12 (eE2 54 55 67) := ⟨by kernel_rfl, kE2, by kernel_rfl, by kernel_rfl⟩
theorem g67_0 : Runs 67 0 := runs ran67 (by kernel_rfl)
theorem g66_1 : Runs 66 1 := runs ran67 (by kernel_rfl)
theorem g65_2 : Runs 65 2 := runs ran67 (by kernel_rfl)
theorem g64_3 : Runs 64 3 := runs ran67 (by kernel_rfl)
theorem g63_4 : Runs 63 4 := runs ran67 (by kernel_rfl)
theorem ran68 (r : Nat → Nat) (lt : ∀ i, r i ≤ 4294967295) : @Memo.Ran (rhoE r lt) tabY 900 12 (eE2 54 56 68) := ⟨by kernel_rfl, kE2, by kernel_rfl, by kernel_rfl⟩
theorem g68_0 : Runs 68 0 := runs ran68 (by kernel_rfl)
theorem g67_1 : Runs 67 1 := runs ran68 (by kernel_rfl)
theorem g66_2 : Runs 66 2 := runs ran68 (by kernel_rfl)
theorem g65_3 : Runs 65 3 := runs ran68 (by kernel_rfl)
theorem g64_4 : Runs 64 4 := runs ran68 (by kernel_rfl)
end
end Go.Proofs.YtblciblkocameaaGreat.Sx
