/- SemEchoes: programs of bounds 97 to 98. -/
import Derived.Test.YtblciblkocameaaGreatEu
namespace Go.Proofs.YtblciblkocameaaGreat.Sx
open Go Go.Proofs.YtblciblkocameaaGreat.Ev
noncomputable section
theorem ran97 (r : Nat → Nat) (lt : ∀ i, r i ≤ 4294967295) : @Memo.Ran (rhoE r lt) tabY 900 12 (eE2 57 55 97) := ⟨by kernel_rfl, kE2, by kernel_rfl, by kernel_rfl⟩
theorem g97_0 : Runs 97 0 := runs ran97 (by kernel_rfl)
theorem g96_1 : Runs 96 1 := runs ran97 (by kernel_rfl)
theorem g95_2 : Runs 95 2 := runs ran97 (by kernel_rfl)
theorem g94_3 : Runs 94 3 := runs ran97 (by kernel_rfl)
theorem g93_4 : Runs 93 4 := runs ran97 (by kernel_rfl)
theorem ran98 (r : Nat → Nat) (lt : ∀ i, r i ≤ 4294967295) : @Memo.Ran (rhoE r lt) tabY 900 12 (eE2 57 56 98) := ⟨by kernel_rfl, kE2, by kernel_rfl, by kernel_rfl⟩
theorem g98_0 : Runs 98 0 := runs ran98 (by kernel_rfl)
theorem g97_1 : Runs 97 1 := runs ran98 (by kernel_rfl)
theorem g96_2 : Runs 96 2 := runs ran98 (by kernel_rfl)
theorem g95_3 : Runs 95 3 := runs ran98 (by kernel_rfl)
theorem g94_4 : Runs 94 4 := runs ran98 (by kernel_rfl)
end
end Go.Proofs.YtblciblkocameaaGreat.Sx
