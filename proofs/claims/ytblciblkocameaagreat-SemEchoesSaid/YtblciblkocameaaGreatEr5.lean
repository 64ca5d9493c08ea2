/- SemEchoes: programs of bounds 51 to 55. -/
import Derived.Test.YtblciblkocameaaGreatEu
namespace Go.Proofs.YtblciblkocameaaGreat.Sx
open Go Go.Proofs.YtblciblkocameaaGreat.Ev
noncomputable section
theorem ran51 (r : Nat → Nat) (lt : ∀ i, r i ≤ 4294967295) : @Memo.Ran (rhoE r lt) tabY 900 12 (eE2 53 49 51) := ⟨by kernel_rfl, kE2, by kernel_rfl, by kernel_rfl⟩
theorem g51_0 : Runs 51 0 := runs ran51 (by kernel_rfl)
theorem g50_1 : Runs 50 1 := runs ran51 (by kernel_rfl)
theorem g49_2 : Runs 49 2 := runs ran51 (by kernel_rfl)
theorem g48_3 : Runs 48 3 := runs ran51 (by kernel_rfl)
theorem g47_4 : Runs 47 4 := runs ran51 (by kernel_rfl)
theorem ran52 (r : Nat → Nat) (lt : ∀ i, r i ≤ 4294967295) : @Memo.Ran (rhoE r lt) tabY 900 12 (eE2 53 50 52) := ⟨by kernel_rfl, kE2, by kernel_rfl, by kernel_rfl⟩
theorem g52_0 : Runs 52 0 := runs ran52 (by kernel_rfl)
theorem g51_1 : Runs 51 1 := runs ran52 (by kernel_rfl)
theorem g50_2 : Runs 50 2 := runs ran52 (by kernel_rfl)
theorem g49_3 : Runs 49 3 := runs ran52 (by kernel_rfl)
theorem g48_4 : Runs 48 4 := runs ran52 (by kernel_rfl)
theorem ran53 (r : Nat → Nat) (lt : ∀ i, r i ≤ 4294967295) : @Memo.Ran (rhoE r lt) tabY 900 12 (eE2 53 51 53) := ⟨by kernel_rfl, kE2, by kernel_rfl, by kernel_rfl⟩
theorem g53_0 : Runs 53 0 := runs ran53 (by kernel_rfl)
theorem g52_1 : Runs 52 1 := runs ran53 (by kernel_rfl)
theorem g51_2 : Runs 51 2 := runs ran53 (by kernel_rfl)
theorem g50_3 : Runs 50 3 := runs ran53 (by kernel_rfl)
theorem g49_4 : Runs 49 4 := runs ran53 (by kernel_rfl)
theorem ran54 (r : Nat → Nat) (lt : ∀ i, r i ≤ 4294967295) : @Memo.Ran (rhoE r lt) tabY 900 12 (eE2 53 52 54) := ⟨by kernel_rfl, kE2, by kernel_rfl, by kernel_rfl⟩
theorem g54_0 : Runs 54 0 := runs ran54 (by kernel_rfl)
theorem g53_1 : Runs 53 1 := runs ran54 (by kernel_rfl)
theorem g52_2 : Runs 52 2 := runs ran54 (by kernel_rfl)
theorem g51_3 : Runs 51 3 := runs ran54 (by kernel_rfl)
theorem g50_4 : Runs 50 4 := runs ran54 (by kernel_rfl)
theorem ran55 (r : Nat → Nat) (lt : ∀ i, r i ≤ 4294967295) : @Memo.Ran (rhoE r lt) tabY 900 12 (eE2 53 53 55) := ⟨by kernel_rfl, kE2, by kernel_rfl, by kernel_rfl⟩
theorem g55_0 : Runs 55 0 := runs ran55 (by kernel_rfl)
theorem g54_1 : Runs 54 1 := runs ran55 (by kernel_rfl)
theorem g53_2 : Runs 53 2 := runs ran55 (by kernel_rfl)
theorem g52_3 : Runs 52 3 := runs ran55 (by kernel_rfl)
theorem g51_4 : Runs 51 4 := runs ran55 (by kernel_rfl)
end
end Go.Proofs.YtblciblkocameaaGreat.Sx
