/- The table with strings.Contains as a function with known answers, and the one with awake as such, too. -/
import Derived.Test.YtomglhellgmbkaaGreatDoorSt
import Derived.Test.YtomglhellgmbkaaGreatDoorSh
set_option linter.unusedVariables false
set_option linter.unusedSimpArgs false
set_option linter.unusedSectionVars false
namespace Go.Proofs.YtomglhellgmbkaaGreatDoor.Sx
open Go Go.Proofs.YtomglhellgmbkaaGreatDoor.Ev
noncomputable section
def tabC : ST := .node 10 tabS (.node 11 (.pr 11 conP) tabS)
def tabA : ST := .node 7 tabC (.node 8 (.pr 8 yesM.at) tabC)
theorem gcell {m : Int} (w : World) (h : letI := rhoG m rfl; GB w) : ∃ m, w.cell? ⟨0, 0, none⟩ = some (.int .i64 m) := by
  letI := rhoG m rfl
  obtain ⟨cs, hv, hc⟩ := h.2 .h ⟨0, 0, 1⟩ (.cells false [.int .i64 m]) rfl rfl
  refine ⟨m, ?_⟩
  cases hv with
  | cons v _ vs _ h1 h2 =>
    cases h2
    have h3 := (h1.int_inv rfl).1
    subst h3
    rcases hc with ⟨_, hc⟩ | ⟨hge, _⟩
    · exact hc 0 _ rfl
    · exact absurd hge (by have := h.1 .h ⟨0, 0, 1⟩ rfl; simp only at this; show ¬ w.heap.size ≤ 0; omega)
theorem okC (m : Int) : letI := rhoG m rfl; ST.Ok Tryz.prog tabC := by
  letI := rhoG m rfl
  exact .node _ _ _ okS (.node _ _ _ (.pr _ _ fun w0 => pr_con ⟨_, Tryz.func11, by kernel_rfl, by decide +kernel⟩ (fun s sub m w hs hm => Go.Proofs.Tryz.strings_Contains s sub m w hs hm) (fun w h => gcell w h) w0) okS)
theorem awake_ran (m : Int) : gc [] (SF tabC 900 8 [] (h0G m) .no) = some (.bool true, []) := by kernel_rfl
theorem okA (m : Int) : letI := rhoG m rfl; ST.Ok Tryz.prog tabA := by
  letI := rhoG m rfl
  exact .node _ _ _ (okC m) (.node _ _ _ (.pr _ _ fun w0 => pr_yes (n := 900) (by kernel_rfl) (okC m) ⟨_, Tryz.func8, by kernel_rfl, by decide +kernel⟩ (awake_ran m) w0) (okC m))
end
end Go.Proofs.YtomglhellgmbkaaGreatDoor.Sx
