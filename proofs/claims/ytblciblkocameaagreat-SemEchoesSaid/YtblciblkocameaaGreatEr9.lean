/- SemEchoes: programs of bounds 65 to 66. -/
import Derived.Test.YtblciblkocameaaGreatEu
namespace Go.Proofs.YtblciblkocameaaGreat.Sx
open Go Go.Proofs.YtblciblkocameaaGreat.Ev
noncomputable section
theorem ran65 (r : Nat → Nat) (lt : ∀ i, r i ≤ 4294967295) : @Memo.Ran (rhoE r lt) tabY 900 12 (eE2 54 53 65) := ⟨by kernel_rfl, kE2, by kernel_rfl, by kernel_rfl⟩
theorem g65_0 : Runs 65 0 := runs ran65 (by kernel_rfl)
theorem g64_1 : Runs 64 1 := runs ran65 (by kernel_rfl)
theorem g63_2 : Runs 63 2 := runs ran65 (by kernel_rfl)
theorem g62_3 : Runs 62 3 := runs ran65 (by kernel_rfl)
theorem g61_4 : Runs 61 4 := runs ran65 (by kernel_rfl)
theorem ran66 (r : Nat → Nat) (lt : ∀ i, r i ≤ 4294967295) : @Memo.Ran (rhoE r lt) tabY 900 12 (eE2 54 54 66) := ⟨by kernel_rfl, kE2, by kernel_rfl, by kernel_rfl⟩
theorem g66_0 : Runs 66 0 := runs ran66 (by kernel_rfl)
theorem g65_1 : Runs 65 1 := runs ran66 (by kernel_rfl)
theorem g64_2 : Runs 64 2 := runs ran66 (by kernel_rfl)
theorem g63_3 : Runs 63 3 := runs ran66 (by kernel_rfl)
theorem g62_4 : Runs 62 4 := runs ran66 (by kernel_rfl)
end
end Go.Proofs.YtblciblkocameaaGreat.Sx
