/- SemEchoes: programs of bounds 103 to 104. -/
import Derived.Test.YtblciblkocameaaGreatEu
namespace Go.Proofs.YtblciblkocameaaGreat.Sx
open Go Go.Proofs.YtblciblkocameaaGreat.Ev
noncomputable section
theorem ran103 (r : Nat → Nat) (lt : ∀ i, r i ≤ 4294967295) : @Memo.Ran (rhoE r lt) tabY 900 12 (eE3 51 103) := ⟨by kernel_rfl, kE3, by kernel_rfl, by kernel_rfl⟩
theorem g100_3 : Runs 100 3 := runs ran103 (by kernel_rfl)
theorem g99_4 : Runs 99 4 := runs ran103 (by kernel_rfl)
theorem ran104 (r : Nat → Nat) (lt : ∀ i, r i ≤ 4294967295) : @Memo.Ran (rhoE r lt) tabY 900 12 (eE3 52 104) := ⟨by kernel_rfl, kE3, by kernel_rfl, by kernel_rfl⟩
theorem g100_4 : Runs 100 4 := runs ran104 (by kernel_rfl)
end
end Go.Proofs.YtblciblkocameaaGreat.Sx
