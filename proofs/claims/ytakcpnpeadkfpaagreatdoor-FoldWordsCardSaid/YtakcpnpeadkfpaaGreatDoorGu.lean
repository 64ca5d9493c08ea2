/- The table with strings.Contains and (*check.checker).find as functions with known answers, and the one with awake as such, too. -/
import Derived.Test.YtakcpnpeadkfpaaGreatDoorSt
import Derived.Test.YtakcpnpeadkfpaaGreatDoorSh
import Derived.Test.YtakcpnpeadkfpaaGreatDoorFi
import Derived.Test.YtakcpnpeadkfpaaGreatDoorVa
set_option linter.unusedVariables false
set_option linter.unusedSimpArgs false
set_option linter.unusedSectionVars false
namespace Go.Proofs.YtakcpnpeadkfpaaGreatDoor.Sx
open Go Go.Proofs.YtakcpnpeadkfpaaGreatDoor.Ev
noncomputable section
def tabC : ST := .node 110 tabS (.node 111 (.pr 111 conP) tabS)
def tabF : ST := .node 147 tabC (.node 148 (.pr 148 Fi.findP) tabC)
def tabA : ST := .node 5 tabF (.node 6 (.pr 6 yesM.at) tabF)
theorem gcell {m : Int} {lf : Ev.Loc} (w : World) (h : letI := rhoV m lf rfl; GB w) : ∃ m, w.cell? ⟨1, 0, none⟩ = some (.int .i64 m) := by
  letI := rhoV m lf rfl
  obtain ⟨cs, hv, hc⟩ := h.2 (.o (.h)) ⟨1, 0, 1⟩ (.cells false [.int .i64 m]) rfl rfl
  refine ⟨m, ?_⟩
  cases hv with
  | cons v _ vs _ h1 h2 =>
    cases h2
    have h3 := (h1.int_inv rfl).1
    subst h3
    rcases hc with ⟨_, hc⟩ | ⟨hge, _⟩
    · exact hc 0 _ rfl
    · exact absurd hge (by have := h.1 (.o (.h)) ⟨1, 0, 1⟩ rfl; simp only at this; show ¬ w.heap.size ≤ 1; omega)
theorem okC (m : Int) (lf : Ev.Loc) : letI := rhoV m lf rfl; ST.Ok Tryz.prog tabC := by
  letI := rhoV m lf rfl
  exact .node _ _ _ okS (.node _ _ _ (.pr _ _ fun w0 => pr_con (g := 1) ⟨_, Tryz.func111, by kernel_rfl, by decide +kernel⟩ (fun s sub m w hs hm => Go.Proofs.Tryz.strings_Contains s sub m w hs hm) (fun w h => gcell w h) w0) okS)
theorem okF (m : Int) (lf : Ev.Loc) : letI := rhoV m lf rfl; ST.Ok Tryz.prog tabF := by
  letI := rhoV m lf rfl
  exact .node _ _ _ (okC m lf) (.node _ _ _ (.pr _ _ fun w0 => Fi.pr_find w0) (okC m lf))
theorem awake_ran (m : Int) : gc [] (SF tabF 900 6 [] (gH m) .no) = some (.bool true, []) := by kernel_rfl
theorem okA (m : Int) (lf : Ev.Loc) : letI := rhoV m lf rfl; ST.Ok Tryz.prog tabA := by
  letI := rhoV m lf rfl
  exact .node _ _ _ (okF m lf) (.node _ _ _ (.pr _ _ fun w0 => pr_yes (n := 900) (by kernel_rfl) (okF m lf) ⟨_, Tryz.func6, by kernel_rfl, by decide +kernel⟩ (awake_ran m) w0) (okF m lf))
end
end Go.Proofs.YtakcpnpeadkfpaaGreatDoor.Sx
