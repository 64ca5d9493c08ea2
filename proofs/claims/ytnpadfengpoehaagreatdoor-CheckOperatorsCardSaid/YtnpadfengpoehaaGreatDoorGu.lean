/- The table with strings.Contains and (*check.checker).find as functions with known answers, and the one with awake as such, too. -/
import Derived.Test.YtnpadfengpoehaaGreatDoorSt
import Derived.Test.YtnpadfengpoehaaGreatDoorSh
import Derived.Test.YtnpadfengpoehaaGreatDoorFi
import Derived.Test.YtnpadfengpoehaaGreatDoorVa
set_option linter.unusedVariables false
set_option linter.unusedSimpArgs false
set_option linter.unusedSectionVars false
namespace Go.Proofs.YtnpadfengpoehaaGreatDoor.Sx
open Go Go.Proofs.YtnpadfengpoehaaGreatDoor.Ev
noncomputable section
def tabC : ST := .node 70 tabS (.node 71 (.pr 71 conP) tabS)
def tabF : ST := .node 104 tabC (.node 105 (.pr 105 Fi.findP) tabC)
def tabA : ST := .node 8 tabF (.node 9 (.pr 9 yesM.at) tabF)
theorem gcell {m : Int} {lf : Ev.Loc} (w : World) (h : letI := rhoV m lf rfl; GB w) : ∃ m, w.cell? ⟨0, 0, none⟩ = some (.int .i64 m) := by
  letI := rhoV m lf rfl
  obtain ⟨cs, hv, hc⟩ := h.2 .h ⟨0, 0, 1⟩ (.cells false [.int .i64 m]) rfl rfl
  refine ⟨m, ?_⟩
  cases hv with
  | cons v _ vs _ h1 h2 =>
    cases h2
    have h3 := (h1.int_inv rfl).1
    subst h3
    rcases hc with ⟨_, hc⟩ | ⟨hge, _⟩
    · exact hc 0 _ rfl
    · exact absurd hge (by have := h.1 .h ⟨0, 0, 1⟩ rfl; simp only at this; show ¬ w.heap.size ≤ 0; omega)
theorem okC (m : Int) (lf : Ev.Loc) : letI := rhoV m lf rfl; ST.Ok Tryz.prog tabC := by
  letI := rhoV m lf rfl
  exact .node _ _ _ okS (.node _ _ _ (.pr _ _ fun w0 => pr_con ⟨_, Tryz.func71, by kernel_rfl, by decide +kernel⟩ (fun s sub m w hs hm => Go.Proofs.Tryz.strings_Contains s sub m w hs hm) (fun w h => gcell w h) w0) okS)
theorem okF (m : Int) (lf : Ev.Loc) : letI := rhoV m lf rfl; ST.Ok Tryz.prog tabF := by
  letI := rhoV m lf rfl
  exact .node _ _ _ (okC m lf) (.node _ _ _ (.pr _ _ fun w0 => Fi.pr_find w0) (okC m lf))
theorem awake_ran (m : Int) : gc [] (SF tabF 900 9 [] (gH m) .no) = some (.bool true, []) := by kernel_rfl
theorem okA (m : Int) (lf : Ev.Loc) : letI := rhoV m lf rfl; ST.Ok Tryz.prog tabA := by
  letI := rhoV m lf rfl
  exact .node _ _ _ (okF m lf) (.node _ _ _ (.pr _ _ fun w0 => pr_yes (n := 900) (by kernel_rfl) (okF m lf) ⟨_, Tryz.func9, by kernel_rfl, by decide +kernel⟩ (awake_ran m) w0) (okF m lf))
end
end Go.Proofs.YtnpadfengpoehaaGreatDoor.Sx
