/- SemEchoes: programs of bounds 21 to 30. -/
import Derived.Test.YtblciblkocameaaGreatEu
namespace Go.Proofs.YtblciblkocameaaGreat.Sx
open Go Go.Proofs.YtblciblkocameaaGreat.Ev
noncomputable section
theorem ran21 (r : Nat → Nat) (lt : ∀ i, r i ≤ 4294967295) : @Memo.Ran (rhoE r lt) tabY 900 12 (eE2 50 49 21) := ⟨by kernel_rfl, kE2, by kernel_rfl, by kernel_rfl⟩
theorem g21_0 : Runs 21 0 := runs ran21 (by kernel_rfl)
theorem g20_1 : Runs 20 1 := runs ran21 (by kernel_rfl)
theorem g19_2 : Runs 19 2 := runs ran21 (by kernel_rfl)
theorem g18_3 : Runs 18 3 := runs ran21 (by kernel_rfl)
theorem g17_4 : Runs 17 4 := runs ran21 (by kernel_rfl)
theorem ran22 (r : Nat → Nat) (lt : ∀ i, r i ≤ 4294967295) : @Memo.Ran (rhoE r lt) tabY 900 12 (eE2 50 50 22) := ⟨by kernel_rfl, kE2, by kernel_rfl, by kernel_rfl⟩
theorem g22_0 : Runs 22 0 := runs ran22 (by kernel_rfl)
theorem g21_1 : Runs 21 1 := runs ran22 (by kernel_rfl)
theorem g20_2 : Runs 20 2 := runs ran22 (by kernel_rfl)
theorem g19_3 : Runs 19 3 := runs ran22 (by kernel_rfl)
theorem g18_4 : Runs 18 4 := runs ran22 (by kernel_rfl)
theorem ran23 (r : Nat → Nat) (lt : ∀ i, r i ≤ 4294967295) : @Memo.Ran (rhoE r lt) tabY 900 12 (eE2 50 51 23) := ⟨by kernel_rfl, kE2, by kernel_rfl, by kernel_rfl⟩
theorem g23_0 : Runs 23 0 := runs ran23 (by kernel_rfl)
theorem g22_1 : Runs 22 1 := runs ran23 (by kernel_rfl)
theorem g21_2 : Runs 21 2 := runs ran23 (by kernel_rfl)
theorem g20_3 : Runs 20 3 := runs ran23 (by kernel_rfl)
theorem g19_4 : Runs 19 4 := runs ran23 (by kernel_rfl)
theorem ran24 (r : Nat → Nat) (lt : ∀ i, r i ≤ 4294967295) : @Memo.Ran (rhoE r lt) tabY 900 12 (eE2 50 52 24) := ⟨by kernel_rfl, kE2, by kernel_rfl, by kernel_rfl⟩
theorem g24_0 : Runs 24 0 := runs ran24 (by kernel_rfl)
theorem g23_1 : Runs 23 1 := runs ran24 (by kernel_rfl)
theorem g22_2 : Runs 22 2 := runs ran24 (by kernel_rfl)
theorem g21_3 : Runs 21 3 := runs ran24 (by kernel_rfl)
theorem g20_4 : Runs 20 4 := runs ran24 (by kernel_rfl)
theorem ran25 (r : Nat → Nat) (lt : ∀ i, r i ≤ 4294967295) : @Memo.Ran (rhoE r lt) tabY 900 12 (eE2 50 53 25) := ⟨by kernel_rfl, kE2, by kernel_rfl, by kernel_rfl⟩
theorem g25_0 : Runs 25 0 := runs ran25 (by kernel_rfl)
theorem g24_1 : Runs 24 1 := runs ran25 (by kernel_rfl)
theorem g23_2 : Runs 23 2 := runs ran25 (by kernel_rfl)
theorem g22_3 : Runs 22 3 := runs ran25 (by kernel_rfl)
theorem g21_4 : Runs 21 4 := runs ran25 (by kernel_rfl)
theorem ran26 (r : Nat → Nat) (lt : ∀ i, r i ≤ 4294967295) : @Memo.Ran (rhoE r lt) tabY 900 12 (eE2 50 54 26) := ⟨by kernel_rfl, kE2, by kernel_rfl, by kernel_rfl⟩
theorem g26_0 : Runs 26 0 := runs ran26 (by kernel_rfl)
theorem g25_1 : Runs 25 1 := runs ran26 (by kernel_rfl)
theorem g24_2 : Runs 24 2 := runs ran26 (by kernel_rfl)
theorem g23_3 : Runs 23 3 := runs ran26 (by kernel_rfl)
theorem g22_4 : Runs 22 4 := runs ran26 (by kernel_rfl)
theorem ran27 (r : Nat → Nat) (lt : ∀ i, r i ≤ 4294967295) : @Memo.Ran (rhoE r lt) tabY 900 12 (eE2 50 55 27) := ⟨by kernel_rfl, kE2, by kernel_rfl, by kernel_rfl⟩
theorem g27_0 : Runs 27 0 := runs ran27 (by kernel_rfl)
theorem g26_1 : Runs 26 1 := runs ran27 (by kernel_rfl)
theorem g25_2 : Runs 25 2 := runs ran27 (by kernel_rfl)
theorem g24_3 : Runs 24 3 := runs ran27 (by kernel_rfl)
theorem g23_4 : Runs 23 4 := runs ran27 (by kernel_rfl)
theorem ran28 (r : Nat → Nat) (lt : ∀ i, r i ≤ 4294967295) : @Memo.Ran (rhoE r lt) tabY 900 12 (eE2 50 56 28) := ⟨by kernel_rfl, kE2, by kernel_rfl, by kernel_rfl⟩
theorem g28_0 : Runs 28 0 := runs ran28 (by kernel_rfl)
theorem g27_1 : Runs 27 1 := runs ran28 (by kernel_rfl)
theorem g26_2 : Runs 26 2 := runs ran28 (by kernel_rfl)
theorem g25_3 : Runs 25 3 := runs ran28 (by kernel_rfl)
theorem g24_4 : Runs 24 4 := runs ran28 (by kernel_rfl)
theorem ran29 (r : Nat → Nat) (lt : ∀ i, r i ≤ 4294967295) : @Memo.Ran (rhoE r lt) tabY 900 12 (eE2 50 57 29) := ⟨by kernel_rfl, kE2, by kernel_rfl, by kernel_rfl⟩
theorem g29_0 : Runs 29 0 := runs ran29 (by kernel_rfl)
theorem g28_1 : Runs 28 1 := runs ran29 (by kernel_rfl)
theorem g27_2 : Runs 27 2 := runs ran29 (by kernel_rfl)
theorem g26_3 : Runs 26 3 := runs ran29 (by kernel_rfl)
theorem g25_4 : Runs 25 4 := runs ran29 (by kernel_rfl)
theorem ran30 (r : Nat → Nat) (lt : ∀ i, r i ≤ 4294967295) : @Memo.Ran (rhoE r lt) tabY 900 12 (eE2 51 48 30) := ⟨by kernel_rfl, kE2, by kernel_rfl, by kernel_rfl⟩
theorem g30_0 : Runs 30 0 := runs ran30 (by kernel_rfl)
theorem g29_1 : Runs 29 1 := runs ran30 (by kernel_rfl)
theorem g28_2 : Runs 28 2 := runs ran30 (by kernel_rfl)
theorem g27_3 : Runs 27 3 := runs ran30 (by kernel_rfl)
theorem g26_4 : Runs 26 4 := runs ran30 (by kernel_rfl)
end
end Go.Proofs.YtblciblkocameaaGreat.Sx
