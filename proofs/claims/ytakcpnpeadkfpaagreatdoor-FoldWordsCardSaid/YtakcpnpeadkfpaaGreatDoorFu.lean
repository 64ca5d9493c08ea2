/- FoldWords: the frame of a round. -/
import Derived.Test.YtakcpnpeadkfpaaGreatDoorFv
set_option linter.unusedVariables false
set_option linter.unusedSimpArgs false
set_option linter.unusedSectionVars false
set_option maxRecDepth 100000
namespace Go.Proofs.YtakcpnpeadkfpaaGreatDoor.Lw
open Go Go.Proofs.YtakcpnpeadkfpaaGreatDoor.Lg Go.Proofs.YtakcpnpeadkfpaaGreatDoor.Ev Go.Proofs.YtakcpnpeadkfpaaGreatDoor.Sx Go.Proofs.YtakcpnpeadkfpaaGreatDoor.Ra
theorem fr_leaf [Rho] {φ : Phi} {nt : Nat} {tmps : Array Value} (hl : Rho.gphi.le φ) (hs : nt ≤ tmps.size) : FrRel φ nt tmps .leaf :=
  ⟨hl, hs, fun t v ht => by rw [show T.get (posOf t) (.leaf : T AV) = none from T.get_leaf _] at ht; simp at ht⟩
/-- What the temporaries hold in the loop. -/
structure Tm (a b : Nat) (lx ly : Ev.Loc) (r : Nat) (A : Act) : Prop where
  sz : nt4 ≤ A.tmps.size
  t0 : A.tmps.getD 0 undef = .int .u32 (Int.ofNat a)
  t1 : A.tmps.getD 1 undef = .int .u32 (Int.ofNat b)
  t4 : A.tmps.getD 4 undef = .bool false
  t5 : A.tmps.getD 5 undef = .pointer (some ⟨lx.blk, lx.off + 0, none⟩)
  t6 : A.tmps.getD 6 undef = .pointer (some ⟨ly.blk, ly.off + 0, none⟩)
  t25 : A.tmps.getD 25 undef = .pointer (some ⟨r, 0, none⟩)
  df : A.defers = []
theorem frB (m : Int) (lf : Ev.Loc) {a b : Nat} (ha : a < 4294967296) (hb : b < 4294967296) {lx ly : Ev.Loc} {r : Nat} {A : Act} (h : Tm a b lx ly r A) {φ : Phi} (hl : letI := rhoV m lf rfl; Rho.gphi.le φ)
    (hx : φ (HP.nxQ (gH m)) = some lx) (hy : φ (HP.nxQ (h2a m a)) = some ly) (hi : φ (HP.nxQ (h2b m a b)) = some ⟨r, 0, 0⟩) : letI := rhoV m lf rfl; FrRel φ nt4 A.tmps (fB m a b) := by
  letI := rhoV m lf rfl
  unfold fB
  refine fr_add (fr_add (fr_add (fr_add (fr_add (fr_add (fr_leaf hl h.sz) ?_) ?_) ?_) ?_) ?_) ?_
  · rw [h.t0]; exact .int _ _ (InR.nat (by omega))
  · rw [h.t1]; exact .int _ _ (InR.nat (by omega))
  · rw [h.t4]; exact .bool _
  · rw [h.t5]; exact .ptr _ 0 lx hx
  · rw [h.t6]; exact .ptr _ 0 ly hy
  · rw [h.t25]; exact .ptr _ 0 ⟨r, 0, 0⟩ hi
end Go.Proofs.YtakcpnpeadkfpaaGreatDoor.Lw
