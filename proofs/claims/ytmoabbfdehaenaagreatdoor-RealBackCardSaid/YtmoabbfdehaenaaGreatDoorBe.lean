/- real.Unhex of what real.Hex wrote. -/
import Derived.Test.YtmoabbfdehaenaaGreatDoorBd
set_option linter.unusedVariables false
set_option linter.unusedSimpArgs false
set_option linter.unusedSectionVars false
set_option maxRecDepth 20000
namespace Go.Proofs.YtmoabbfdehaenaaGreatDoor.Lx
open Go Go.Proofs.YtmoabbfdehaenaaGreatDoor.Ev Go.Proofs.YtmoabbfdehaenaaGreatDoor.Sx
noncomputable section
theorem find16 : tabB.run 16 = S16 := by kernel_rfl
theorem sf_unhex (k : Nat) {x : Nat} (hx : x < 18446744073709551616) (hc : canonN x = x) (h : HP) : ∃ h', SF tabB (k + 23) 16 [.str (hexS x)] h .no = some (.ret (.tup [uv x, iv 0]) h', .no) := by
  obtain ⟨h', e⟩ := sf_pu k hx h
  refine ⟨h', ?_⟩
  rw [SF_succ, find16]
  show S16_3 (SF tabB (k + 22)) (k + 22) (hexS x) h = _
  unfold S16_3
  refine (cal_of e _).trans ?_
  have e2 := sf_hex (k + 20) hx h'
  rw [hc] at e2
  show cal (SF tabB (k + 22)) 12 [uv x] h' _ = _
  refine (cal_of e2 _).trans ?_
  refine (asS_s _ _).trans ?_
  try dsimp only
  rw [show eqL (hexS x) (hexS x) = true from by rw [eqL_eq]; exact decide_eq_true rfl]
  rfl
end
end Go.Proofs.YtmoabbfdehaenaaGreatDoor.Lx
