/- SemEchoes: programs of bounds 41 to 45. -/
import Derived.Test.YtblciblkocameaaGreatEu
namespace Go.Proofs.YtblciblkocameaaGreat.Sx
open Go Go.Proofs.YtblciblkocameaaGreat.Ev
noncomputable section
theorem ran41 (r : Nat → Nat) (lt : ∀ i, r i ≤ 4294967295) : @Memo.Ran (rhoE r lt) tabY 900 12 (eE2 52 49 41) := ⟨by kernel_rfl, kE2, by kernel_rfl, by kernel_rfl⟩
theorem g41_0 : Runs 41 0 := runs ran41 (by kernel_rfl)
theorem g40_1 : Runs 40 1 := runs ran41 (by kernel_rfl)
theorem g39_2 : Runs 39 2 := runs ran41 (by kernel_rfl)
theorem g38_3 : Runs 38 3 := runs ran41 (by kernel_rfl)
theorem g37_4 : Runs 37 4 := runs ran41 (by kernel_rfl)
theorem ran42 (r : Nat → Nat) (lt : ∀ i, r i ≤ 4294967295) : @Memo.Ran (rhoE r lt) tabY 900 12 (eE2 52 50 42) := ⟨by kernel_rfl, kE2, by kernel_rfl, by kernel_rfl⟩
theorem g42_0 : Runs 42 0 := runs ran42 (by kernel_rfl)
theorem g41_1 : Runs 41 1 := runs ran42 (by kernel_rfl)
theorem g40_2 : Runs 40 2 := runs ran42 (by kernel_rfl)
theorem g39_3 : Runs 39 3 := runs ran42 (by kernel_rfl)
theorem g38_4 : Runs 38 4 := runs ran42 (by kernel_rfl)
theorem ran43 (r : Nat → Nat) (lt : ∀ i, r i ≤ 4294967295) : @Memo.Ran (rhoE r lt) tabY 900 12 (eE2 52 51 43) := ⟨by kernel_rfl, kE2, by kernel_rfl, by kernel_rfl⟩
theorem g43_0 : Runs 43 0 := runs ran43 (by kernel_rfl)
theorem g42_1 : Runs 42 1 := runs ran43 (by kernel_rfl)
theorem g41_2 : Runs 41 2 := runs ran43 (by kernel_rfl)
theorem g40_3 : Runs 40 3 := runs ran43 (by kernel_rfl)
theorem g39_4 : Runs 39 4 := runs ran43 (by kernel_rfl)
theorem ran44 (r : Nat → Nat) (lt : ∀ i, r i ≤ 4294967295) : @Memo.Ran (rhoE r lt) tabY 900 12 (eE2 52 52 44) := ⟨by kernel_rfl, kE2, by kernel_rfl, by kernel_rfl⟩
theorem g44_0 : Runs 44 0 := runs ran44 (by kernel_rfl)
theorem g43_1 : Runs 43 1 := runs ran44 (by kernel_rfl)
theorem g42_2 : Runs 42 2 := runs ran44 (by kernel_rfl)
theorem g41_3 : Runs 41 3 := runs ran44 (by kernel_rfl)
theorem g40_4 : Runs 40 4 := runs ran44 (by kernel_rfl)
theorem ran45 (r : Nat → Nat) (lt : ∀ i, r i ≤ 4294967295) : @Memo.Ran (rhoE r lt) tabY 900 12 (eE2 52 53 45) := ⟨by kernel_rfl, kE2, by kernel_rfl, by kernel_rfl⟩
theorem g45_0 : Runs 45 0 := runs ran45 (by kernel_rfl)
theorem g44_1 : Runs 44 1 := runs ran45 (by kernel_rfl)
theorem g43_2 : Runs 43 2 := runs ran45 (by kernel_rfl)
theorem g42_3 : Runs 42 3 := runs ran45 (by kernel_rfl)
theorem g41_4 : Runs 41 4 := runs ran45 (by kernel_rfl)
end
end Go.Proofs.YtblciblkocameaaGreat.Sx
