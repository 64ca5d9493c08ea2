/- SemEchoes: programs of bounds 95 to 96. -/
import Derived.Test.YtblciblkocameaaGreatEu
namespace Go.Proofs.YtblciblkocameaaGreat.Sx
open Go Go.Proofs.YtblciblkocameaaGreat.Ev
noncomputable section
theorem ran95 (r : Nat → Nat) (lt : ∀ i, r i ≤ 4294967295) : @Memo.Ran (rhoE r lt) tabY 900 12 (eE2 57 53 95) := ⟨by kernel_rfl, kE2, by kernel_rfl, by kernel_rfl⟩
theorem g95_0 : Runs 95 0 := runs ran95 (by kernel_rfl)
theorem g94_1 : Runs 94 1 := runs ran95 (by kernel_rfl)
theorem g93_2 : Runs 93 2 := runs ran95 (by kernel_rfl)
theorem g92_3 : Runs 92 3 := runs ran95 (by kernel_rfl)
theorem g91_4 : Runs 91 4 := runs ran95 (by kernel_rfl)
theorem ran96 (r : Nat → Nat) (lt : ∀ i, r i ≤ 4294967295) : @Memo.Ran (rhoE r lt) tabY 900 12 (eE2 57 54 96) := ⟨by kernel_rfl, kE2, by kernel_rfl, by kernel_rfl⟩
theorem g96_0 : Runs 96 0 := runs ran96 (by kernel_rfl)
theorem g95_1 : Runs 95 1 := runs ran96 (by kernel_rfl)
theorem g94_2 : Runs 94 2 := runs ran96 (by kernel_rfl)
theorem g93_3 : Runs 93 3 := runs ran96 (by kernel_rfl)
theorem g92_4 : Runs 92 4 := runs ran96 (by kernel_rfl)
end
end Go.Proofs.YtblciblkocameaaGreat.Sx
