/- SemEchoes: programs of bounds 56 to 60. -/
import Derived.Test.YtblciblkocameaaGreatEu
namespace Go.Proofs.YtblciblkocameaaGreat.Sx
open Go Go.Proofs.YtblciblkocameaaGreat.Ev
noncomputable section
theorem ran56 (r : Nat → Nat) (lt : ∀ i, r i ≤ 4294967295) : @Memo.Ran (rhoE r lt) tabY 900 12 (eE2 53 54 56) := ⟨by kernel_rfl, kE2, by kernel_rfl, by kernel_rfl⟩
theorem g56_0 : Runs 56 0 := runs ran56 (by kernel_rfl)
theorem g55_1 : Runs 55 1 := runs ran56 (by kernel_rfl)
theorem g54_2 : Runs 54 2 := runs ran56 (by kernel_rfl)
theorem g53_3 : Runs 53 3 := runs ran56 (by kernel_rfl)
theorem g52_4 : Runs 52 4 := runs ran56 (by kernel_rfl)
theorem ran57 (r : Nat → Nat) (lt : ∀ i, r i ≤ 4294967295) : @Memo.Ran (rhoE r lt) tabY 900 12 (eE2 53 55 57) := ⟨by kernel_rfl, kE2, by kernel_rfl, by kernel_rfl⟩
theorem g57_0 : Runs 57 0 := runs ran57 (by kernel_rfl)
theorem g56_1 : Runs 56 1 := runs ran57 (by kernel_rfl)
theorem g55_2 : Runs 55 2 := runs ran57 (by kernel_rfl)
theorem g54_3 : Runs 54 3 := runs ran57 (by kernel_rfl)
theorem g53_4 : Runs 53 4 := runs ran57 (by kernel_rfl)
theorem ran58 (r : Nat → Nat) (lt : ∀ i, r i ≤ 4294967295) : @Memo.Ran (rhoE r lt) tabY 900 12 (eE2 53 56 58) := ⟨by kernel_rfl, kE2, by kernel_rfl, by kernel_rfl⟩
theorem g58_0 : Runs 58 0 := runs ran58 (by kernel_rfl)
theorem g57_1 : Runs 57 1 := runs ran58 (by kernel_rfl)
theorem g56_2 : Runs 56 2 := runs ran58 (by kernel_rfl)
theorem g55_3 : Runs 55 3 := runs ran58 (by kernel_rfl)
theorem g54_4 : Runs 54 4 := runs ran58 (by kernel_rfl)
theorem ran59 (r : Nat → Nat) (lt : ∀ i, r i ≤ 4294967295) : @Memo.Ran (rhoE r lt) tabY 900 12 (eE2 53 57 59) := ⟨by kernel_rfl, kE2, by kernel_rfl, by kernel_rfl⟩
theorem g59_0 : Runs 59 0 := runs ran59 (by kernel_rfl)
theorem g58_1 : Runs 58 1 := runs ran59 (by kernel_rfl)
theorem g57_2 : Runs 57 2 := runs ran59 (by kernel_rfl)
theorem g56_3 : Runs 56 3 := runs ran59 (by kernel_rfl)
theorem g55_4 : Runs 55 4 := runs ran59 (by kernel_rfl)
theorem ran60 (r : Nat → Nat) (lt : ∀ i, r i ≤ 4294967295) : @Memo.Ran (rhoE r lt) tabY 900 12 (eE2 54 48 60) := ⟨by kernel_rfl, kE2, by kernel_rfl, by kernel_rfl⟩
theorem g60_0 : Runs 60 0 := runs ran60 (by kernel_rfl)
theorem g59_1 : Runs 59 1 := runs ran60 (by kernel_rfl)
theorem g58_2 : Runs 58 2 := runs ran60 (by kernel_rfl)
theorem g57_3 : Runs 57 3 := runs ran60 (by kernel_rfl)
theorem g56_4 : Runs 56 4 := runs ran60 (by kernel_rfl)
end
end Go.Proofs.YtblciblkocameaaGreat.Sx
