/- SemEchoes: programs of bounds 46 to 50. -/
import Derived.Test.YtblciblkocameaaGreatEu
namespace Go.Proofs.YtblciblkocameaaGreat.Sx
open Go Go.Proofs.YtblciblkocameaaGreat.Ev
noncomputable section
theorem ran46 (r : Nat → Nat) (lt : ∀ i, r i ≤ 4294967295) : @Memo.Ran (rhoE r lt) tabY 900 12 (eE2 52 54 46) := ⟨by kernel_rfl, kE2, by kernel_rfl, by kernel_rfl⟩
theorem g46_0 : Runs 46 0 := runs ran46 (by kernel_rfl)
theorem g45_1 : Runs 45 1 := runs ran46 (by kernel_rfl)
theorem g44_2 : Runs 44 2 := runs ran46 (by kernel_rfl)
theorem g43_3 : Runs 43 3 := runs ran46 (by kernel_rfl)
theorem g42_4 : Runs 42 4 := runs ran46 (by kernel_rfl)
theorem ran47 (r : Nat → Nat) (lt : ∀ i, r i ≤ 4294967295) : @Memo.Ran (rhoE r lt) tabY 900 12 (eE2 52 55 47) := ⟨by kernel_rfl, kE2, by kernel_rfl, by kernel_rfl⟩
theorem g47_0 : Runs 47 0 := runs ran47 (by kernel_rfl)
theorem g46_1 : Runs 46 1 := runs ran47 (by kernel_rfl)
theorem g45_2 : Runs 45 2 := runs ran47 (by kernel_rfl)
theorem g44_3 : Runs 44 3 := runs ran47 (by kernel_rfl)
theorem g43_4 : Runs 43 4 := runs ran47 (by kernel_rfl)
theorem ran48 (r : Nat → Nat) (lt : ∀ i, r i ≤ 4294967295) : @Memo.Ran (rhoE r lt) tabY 900 12 (eE2 52 56 48) := ⟨by kernel_rfl, kE2, by kernel_rfl, by kernel_rfl⟩
theorem g48_0 : Runs 48 0 := runs ran48 (by kernel_rfl)
theorem g47_1 : Runs 47 1 := runs ran48 (by kernel_rfl)
theorem g46_2 : Runs 46 2 := runs ran48 (by kernel_rfl)
theorem g45_3 : Runs 45 3 := runs ran48 (by kernel_rfl)
theorem g44_4 : Runs 44 4 := runs ran48 (by kernel_rfl)
theorem ran49 (r : Nat → Nat) (lt : ∀ i, r i ≤ 4294967295) : @Memo.Ran (rhoE r lt) tabY 900 12 (eE2 52 57 49) := ⟨by kernel_rfl, kE2, by kernel_rfl, by kernel_rfl⟩
theorem g49_0 : Runs 49 0 := runs ran49 (by kernel_rfl)
theorem g48_1 : Runs 48 1 := runs ran49 (by kernel_rfl)
theorem g47_2 : Runs 47 2 := runs ran49 (by kernel_rfl)
theorem g46_3 : Runs 46 3 := runs ran49 (by kernel_rfl)
theorem g45_4 : Runs 45 4 := runs ran49 (by kernel_rfl)
theorem ran50 (r : Nat → Nat) (lt : ∀ i, r i ≤ 4294967295) : @Memo.Ran (rhoE r lt) tabY 900 12 (eE2 53 48 50) := ⟨by kernel_rfl, kE2, by kernel_rfl, by kernel_rfl⟩
theorem g50_0 : Runs 50 0 := runs ran50 (by kernel_rfl)
theorem g49_1 : Runs 49 1 := runs ran50 (by kernel_rfl)
theorem g48_2 : Runs 48 2 := runs ran50 (by kernel_rfl)
theorem g47_3 : Runs 47 3 := runs ran50 (by kernel_rfl)
theorem g46_4 : Runs 46 4 := runs ran50 (by kernel_rfl)
end
end Go.Proofs.YtblciblkocameaaGreat.Sx
