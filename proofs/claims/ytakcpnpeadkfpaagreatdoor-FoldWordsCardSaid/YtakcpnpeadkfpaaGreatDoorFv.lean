/- FoldWords: the base of a round. -/
import Derived.Test.YtakcpnpeadkfpaaGreatDoorFy
import Derived.Test.YtakcpnpeadkfpaaGreatDoorFp2
set_option linter.unusedVariables false
set_option linter.unusedSimpArgs false
set_option linter.unusedSectionVars false
set_option maxRecDepth 100000
namespace Go.Proofs.YtakcpnpeadkfpaaGreatDoor.Lw
open Go Go.Proofs.YtakcpnpeadkfpaaGreatDoor.Lg Go.Proofs.YtakcpnpeadkfpaaGreatDoor.Ev Go.Proofs.YtakcpnpeadkfpaaGreatDoor.Sx Go.Proofs.YtakcpnpeadkfpaaGreatDoor.Ra
section
variable (m : Int) (lf : Ev.Loc) (a b : Nat)
/-- Three blocks of the world, taken in as they are. -/
theorem base_of {w : World} (hg : letI := rhoV m lf rfl; GB w) {lx ly : Ev.Loc} {r : Nat} {cx cy : List Value} (hx : lx.blk < w.heap.size) (hy : ly.blk < w.heap.size) (hr : r < w.heap.size)
    (vx : letI := rhoV m lf rfl; RVs Rho.gphi cx (Lc 1 a 0)) (vy : letI := rhoV m lf rfl; RVs Rho.gphi cy (Lc 1 b 0)) (kx : ∀ i v, cx[i]? = some v → w.cell? ⟨lx.blk, lx.off + i, none⟩ = some v) (ky : ∀ i v, cy[i]? = some v → w.cell? ⟨ly.blk, ly.off + i, none⟩ = some v) :
    letI := rhoV m lf rfl; ∃ φ, Rel w φ (h2 m a b) w ∧ Rho.gphi.le φ ∧ φ (HP.nxQ (gH m)) = some lx ∧ φ (HP.nxQ (h2a m a)) = some ly ∧ φ (HP.nxQ (h2b m a b)) = some ⟨r, 0, 0⟩ := by
  letI := rhoV m lf rfl
  have r0 := rel_start hg
  obtain ⟨r1, l1, o1⟩ := r0.row (fun b k hk => by obtain ⟨vs, rfl⟩ := Rho.gro b k hk; rfl) hx vx kx
  obtain ⟨r2, l2, o2⟩ := r1.row o1 hy (vy.mono l1) ky
  obtain ⟨r3, l3, o3⟩ := r2.row o2 (l := ⟨r, 0, 0⟩) (cs := []) (vs := []) hr .nil (fun i v h => by simp at h)
  exact ⟨_, r3, (l1.trans l2).trans l3, (l2.trans l3) _ _ (by kernel_rfl), l3 _ _ (by kernel_rfl), by kernel_rfl⟩
end
end Go.Proofs.YtakcpnpeadkfpaaGreatDoor.Lw
