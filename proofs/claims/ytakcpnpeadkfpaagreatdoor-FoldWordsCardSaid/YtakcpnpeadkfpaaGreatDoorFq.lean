/- FoldWords: worlds that a base's own old blocks don't tell apart. -/
import Derived.Test.YtakcpnpeadkfpaaGreatDoorFu
set_option linter.unusedVariables false
set_option linter.unusedSimpArgs false
set_option linter.unusedSectionVars false
set_option maxRecDepth 100000
namespace Go.Proofs.YtakcpnpeadkfpaaGreatDoor.Lw
open Go Go.Proofs.YtakcpnpeadkfpaaGreatDoor.Lg Go.Proofs.YtakcpnpeadkfpaaGreatDoor.Ev Go.Proofs.YtakcpnpeadkfpaaGreatDoor.Sx Go.Proofs.YtakcpnpeadkfpaaGreatDoor.Ra
section
variable [Rho]
theorem rel_g0 {W w : World} (hg : GB W) (os : w.os = W.os) (tape : w.tape = W.tape) (out : w.output = W.output) (size : W.heap.size ≤ w.heap.size) (old : ∀ r, r < W.heap.size → w.heap[r]? = W.heap[r]?) : Rel W Rho.gphi Rho.g0 w := by
  have r := rel_start hg
  refine ⟨os, tape, out, size, old, r.gb, r.wf, fun b l h => ⟨(r.dom b l h).1, Nat.lt_of_lt_of_le (r.dom b l h).2 size⟩, fun b l k h1 h2 => ?_, r.inj⟩
  have hk := r.ok b l k h1 h2
  obtain ⟨vs, rfl⟩ := Rho.gro b k h2
  obtain ⟨cs, hv, hc⟩ := hk
  refine ⟨cs, hv, .inl ?_⟩
  rcases hc with hc | ⟨hge, _⟩
  · exact hc
  · have := (r.dom b l h1).2; omega
theorem rel_thru {W w5 w6 : World} {φ ψ : Phi} {h h' : HP} (r : Rel W φ h w5) (s : Rel w5 ψ h' w6) : Rel W Rho.gphi Rho.g0 w6 :=
  rel_g0 r.gb.2 (s.os.trans r.os) (s.tape.trans r.tape) (s.output.trans r.output) (Nat.le_trans r.size s.size) fun i hi => (s.old i (Nat.lt_of_lt_of_le hi r.size)).trans (r.old i hi)
theorem rel_g {W w : World} {φ : Phi} {h : HP} (r : Rel W φ h w) : Rel W Rho.gphi Rho.g0 w := rel_g0 r.gb.2 r.os r.tape r.output r.size r.old
theorem rel_turn {W w w' : World} {r : Nat} {o : Obj} (h : Rel W Rho.gphi Rho.g0 w) (hr : W.heap.size ≤ r) (t : Turned w w' r o) : Rel W Rho.gphi Rho.g0 w' :=
  rel_g0 h.gb.2 (t.os.trans h.os) (t.tape.trans h.tape) (t.output.trans h.output) (by rw [t.size]; exact h.size) fun i hi => by rw [t.heap, if_neg (by omega)]; exact h.old i hi
end
end Go.Proofs.YtakcpnpeadkfpaaGreatDoor.Lw
