/- SemEchoes: programs of bounds 31 to 40. -/
import Derived.Test.YtblciblkocameaaGreatEu
namespace Go.Proofs.YtblciblkocameaaGreat.Sx
open Go Go.Proofs.YtblciblkocameaaGreat.Ev
noncomputable section
theorem ran31 (r : Nat → Nat) (lt : ∀ i, r i ≤ 4294967295) : @Memo.Ran (rhoE r lt) tabY 900 12 (eE2 51 49 31) := ⟨by kernel_rfl, kE2, by kernel_rfl, by kernel_rfl⟩
theorem g31_0 : Runs 31 0 := runs ran31 (by kernel_rfl)
theorem g30_1 : Runs 30 1 := runs ran31 (by kernel_rfl)
theorem g29_2 : Runs 29 2 := runs ran31 (by kernel_rfl)
theorem g28_3 : Runs 28 3 := runs ran31 (by kernel_rfl)
theorem g27_4 : Runs 27 4 := runs ran31 (by kernel_rfl)
theorem ran32 (r : Nat → Nat) (lt : ∀ i, r i ≤ 4294967295) : @Memo.Ran (rhoE r lt) tabY 900 12 (eE2 51 50 32) := ⟨by kernel_rfl, kE2, by kernel_rfl, by kernel_rfl⟩
theorem g32_0 : Runs 32 0 := runs ran32 (by kernel_rfl)
theorem g31_1 : Runs 31 1 := runs ran32 (by kernel_rfl)
theorem g30_2 : Runs 30 2 := runs ran32 (by kernel_rfl)
theorem g29_3 : Runs 29 3 := runs ran32 (by kernel_rfl)
theorem g28_4 : Runs 28 4 := runs ran32 (by kernel_rfl)
theorem ran33 (r : Nat → Nat) (lt : ∀ i, r i ≤ 4294967295) : @Memo.Ran (rhoE r lt) tabY 900 12 (eE2 51 51 33) := ⟨by kernel_rfl, kE2, by kernel_rfl, by kernel_rfl⟩
theorem g33_0 : Runs 33 0 := runs ran33 (by kernel_rfl)
theorem g32_1 : Runs 32 1 := runs ran33 (by kernel_rfl)
theorem g31_2 : Runs 31 2 := runs ran33 (by kernel_rfl)
theorem g30_3 : Runs 30 3 := runs ran33 (by kernel_rfl)
theorem g29_4 : Runs 29 4 := runs ran33 (by kernel_rfl)
theorem ran34 (r : Nat → Nat) (lt : ∀ i, r i ≤ 4294967295) : @Memo.Ran (rhoE r lt) tabY 900 12 (eE2 51 52 34) := ⟨by kernel_rfl, kE2, by kernel_rfl, by kernel_rfl⟩
theorem g34_0 : Runs 34 0 := runs ran34 (by kernel_rfl)
theorem g33_1 : Runs 33 1 := runs ran34 (by kernel_rfl)
theorem g32_2 : Runs 32 2 := runs ran34 (by kernel_rfl)
theorem g31_3 : Runs 31 3 := runs ran34 (by kernel_rfl)
theorem g30_4 : Runs 30 4 := runs ran34 (by kernel_rfl)
theorem ran35 (r : Nat → Nat) (lt : ∀ i, r i ≤ 4294967295) : @Memo.Ran (rhoE r lt) tabY 900 12 (eE2 51 53 35) := ⟨by kernel_rfl, kE2, by kernel_rfl, by kernel_rfl⟩
theorem g35_0 : Runs 35 0 := runs ran35 (by kernel_rfl)
theorem g34_1 : Runs 34 1 := runs ran35 (by kernel_rfl)
theorem g33_2 : Runs 33 2 := runs ran35 (by kernel_rfl)
theorem g32_3 : Runs 32 3 := runs ran35 (by kernel_rfl)
theorem g31_4 : Runs 31 4 := runs ran35 (by kernel_rfl)
theorem ran36 (r : Nat → Nat) (lt : ∀ i, r i ≤ 4294967295) : @Memo.Ran (rhoE r lt) tabY 900 12 (eE2 51 54 36) := ⟨by kernel_rfl, kE2, by kernel_rfl, by kernel_rfl⟩
theorem g36_0 : Runs 36 0 := runs ran36 (by kernel_rfl)
theorem g35_1 : Runs 35 1 := runs ran36 (by kernel_rfl)
theorem g34_2 : Runs 34 2 := runs ran36 (by kernel_rfl)
theorem g33_3 : Runs 33 3 := runs ran36 (by kernel_rfl)
theorem g32_4 : Runs 32 4 := runs ran36 (by kernel_rfl)
theorem ran37 (r : Nat → Nat) (lt : ∀ i, r i ≤ 4294967295) : @Memo.Ran (rhoE r lt) tabY 900 12 (eE2 51 55 37) := ⟨by kernel_rfl, kE2, by kernel_rfl, by kernel_rfl⟩
theorem g37_0 : Runs 37 0 := runs ran37 (by kernel_rfl)
theorem g36_1 : Runs 36 1 := runs ran37 (by kernel_rfl)
theorem g35_2 : Runs 35 2 := runs ran37 (by kernel_rfl)
theorem g34_3 : Runs 34 3 := runs ran37 (by kernel_rfl)
theorem g33_4 : Runs 33 4 := runs ran37 (by kernel_rfl)
theorem ran38 (r : Nat → Nat) (lt : ∀ i, r i ≤ 4294967295) : @Memo.Ran (rhoE r lt) tabY 900 12 (eE2 51 56 38) := ⟨by kernel_rfl, kE2, by kernel_rfl, by kernel_rfl⟩
theorem g38_0 : Runs 38 0 := runs ran38 (by kernel_rfl)
theorem g37_1 : Runs 37 1 := runs ran38 (by kernel_rfl)
theorem g36_2 : Runs 36 2 := runs ran38 (by kernel_rfl)
theorem g35_3 : Runs 35 3 := runs ran38 (by kernel_rfl)
theorem g34_4 : Runs 34 4 := runs ran38 (by kernel_rfl)
theorem ran39 (r : Nat → Nat) (lt : ∀ i, r i ≤ 4294967295) : @Memo.Ran (rhoE r lt) tabY 900 12 (eE2 51 57 39) := ⟨by kernel_rfl, kE2, by kernel_rfl, by kernel_rfl⟩
theorem g39_0 : Runs 39 0 := runs ran39 (by kernel_rfl)
theorem g38_1 : Runs 38 1 := runs ran39 (by kernel_rfl)
theorem g37_2 : Runs 37 2 := runs ran39 (by kernel_rfl)
theorem g36_3 : Runs 36 3 := runs ran39 (by kernel_rfl)
theorem g35_4 : Runs 35 4 := runs ran39 (by kernel_rfl)
theorem ran40 (r : Nat → Nat) (lt : ∀ i, r i ≤ 4294967295) : @Memo.Ran (rhoE r lt) tabY 900 12 (eE2 52 48 40) := ⟨by kernel_rfl, kE2, by kernel_rfl, by kernel_rfl⟩
theorem g40_0 : Runs 40 0 := runs ran40 (by kernel_rfl)
theorem g39_1 : Runs 39 1 := runs ran40 (by kernel_rfl)
theorem g38_2 : Runs 38 2 := runs ran40 (by kernel_rfl)
theorem g37_3 : Runs 37 3 := runs ran40 (by kernel_rfl)
theorem g36_4 : Runs 36 4 := runs ran40 (by kernel_rfl)
end
end Go.Proofs.YtblciblkocameaaGreat.Sx
