/- SemEchoes: programs of bounds 63 to 64. -/
import Derived.Test.YtblciblkocameaaGreatEu
namespace Go.Proofs.YtblciblkocameaaGreat.Sx
open Go Go.Proofs.YtblciblkocameaaGreat.Ev
noncomputable section
theorem ran63 (r : Nat → Nat) (lt : ∀ i, r i ≤ 4294967295) : @Memo.Ran (rhoE r lt) tabY 900 12 (eE2 54 51 63) := ⟨by kernel_rfl, kE2, by kernel_rfl, by kernel_rfl⟩
theorem g63_0 : Runs 63 0 := runs ran63 (by kernel_rfl)
theorem g62_1 : Runs 62 1 := runs ran63 (by kernel_rfl)
theorem g61_2 : Runs 61 2 := runs ran63 (by kernel_rfl)
theorem g60_3 : Runs 60 3 := runs ran63 (by kernel_rfl)
theorem g59_4 : Runs 59 4 := runs ran63 (by kernel_rfl)
theorem ran64 (r : Nat → Nat) (lt : ∀ i, r i ≤ 4294967295) : @Memo.Ran (rhoE r lt) tabY 900 12 (eE2 54 52 64) := ⟨by kernel_rfl, kE2, by kernel_rfl, by kernel_rfl⟩
theorem g64_0 : Runs 64 0 := runs ran64 (by kernel_rfl)
theorem g63_1 : Runs 63 1 := runs ran64 (by kernel_rfl)
theorem g62_2 : Runs 62 2 := runs ran64 (by kernel_rfl)
theorem g61_3 : Runs 61 3 := runs ran64 (by kernel_rfl)
theorem g60_4 : Runs 60 4 := runs ran64 (by kernel_rfl)
end
end Go.Proofs.YtblciblkocameaaGreat.Sx
