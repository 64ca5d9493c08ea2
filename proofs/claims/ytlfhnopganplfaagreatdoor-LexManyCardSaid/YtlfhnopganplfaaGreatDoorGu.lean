/- The table with strings.Contains as a function with known answers, and the one with awake as such, too. -/
import Derived.Test.YtlfhnopganplfaaGreatDoorSt
import Derived.Test.YtlfhnopganplfaaGreatDoorSh
import Derived.Test.YtlfhnopganplfaaGreatDoorVa
import Derived.Test.YtlfhnopganplfaaGreatDoorPu
set_option linter.unusedVariables false
set_option linter.unusedSimpArgs false
set_option linter.unusedSectionVars false
namespace Go.Proofs.YtlfhnopganplfaaGreatDoor.Sx
open Go Go.Proofs.YtlfhnopganplfaaGreatDoor.Ev
noncomputable section
def tabC : ST := .node 21 tabS (.node 22 (.pr 22 conP) (.node 26 tabS (.node 27 (.pr 27 puP) tabS)))
def tabA : ST := .node 5 tabC (.node 6 (.pr 6 yesM.at) tabC)
theorem gcell {m : Int} {lf : Ev.VL} (w : World) (h : letI := rhoV m lf rfl; GB w) : ∃ m, w.cell? ⟨0, 0, none⟩ = some (.int .i64 m) := by
  letI := rhoV m lf rfl
  obtain ⟨cs, hv, hc⟩ := h.2 (.h) ⟨0, 0, 1⟩ (.cells false [.int .i64 m]) rfl rfl
  refine ⟨m, ?_⟩
  cases hv with
  | cons v _ vs _ h1 h2 =>
    cases h2
    have h3 := (h1.int_inv rfl).1
    subst h3
    rcases hc with ⟨_, hc⟩ | ⟨hge, _⟩
    · exact hc 0 _ rfl
    · exact absurd hge (by have := h.1 (.h) ⟨0, 0, 1⟩ rfl; simp only at this; show ¬ w.heap.size ≤ 0; omega)
theorem gerr {m : Int} {lf : Ev.VL} (w : World) (h : letI := rhoV m lf rfl; GB w) : ∃ te pe, w.cell? ⟨3, 0, none⟩ = some (.iface te pe) := by
  letI := rhoV m lf rfl
  obtain ⟨cs, hv, hc⟩ := h.2 (.o (.o (.h))) ⟨3, 0, 1⟩ _ rfl rfl
  cases hv with
  | cons v _ vs _ h1 h2 =>
    cases h1 with
    | iface t v a h3 =>
      rcases hc with ⟨_, hc⟩ | ⟨hge, _⟩
      · exact ⟨_, _, hc 0 _ rfl⟩
      · exact absurd hge (by have := h.1 (.o (.o (.h))) ⟨3, 0, 1⟩ rfl; simp only at this; show ¬ w.heap.size ≤ 3; omega)
theorem okC (m : Int) (lf : Ev.VL) : letI := rhoV m lf rfl; ST.Ok Tryz.prog tabC := by
  letI := rhoV m lf rfl
  exact .node _ _ _ okS (.node _ _ _ (.pr _ _ fun w0 => pr_con (g := 0) ⟨_, Tryz.func22, by kernel_rfl, by decide +kernel⟩ (fun s sub m w hs hm => Go.Proofs.Tryz.strings_Contains s sub m w hs hm) (fun w h => gcell w h) w0) (.node _ _ _ okS (.node _ _ _ (.pr _ _ fun w0 => pr_pu (g := 3) ⟨_, Tryz.func27, by kernel_rfl, by decide +kernel⟩ (fun s hs u hu w => Go.Proofs.Tryz.strconv_ParseUint_10_at32_ok s hs u hu w) (fun s hs hr ev w hw he => Calls.mono (Go.Proofs.Tryz.strconv_ParseUint_10_at32_range s hs hr ev w hw he) fun e w' ⟨N, h1, h2, h3, h4⟩ => ⟨N, h1, h2, ⟨_, _, _, h3⟩, h4⟩) (fun w h => gerr w h) w0) okS)))
theorem awake_ran (m : Int) : gc [] (SF tabC 900 6 [] (gH m) .no) = some (.bool true, []) := by kernel_rfl
theorem okA (m : Int) (lf : Ev.VL) : letI := rhoV m lf rfl; ST.Ok Tryz.prog tabA := by
  letI := rhoV m lf rfl
  exact .node _ _ _ (okC m lf) (.node _ _ _ (.pr _ _ fun w0 => pr_yes (n := 900) (by kernel_rfl) (okC m lf) ⟨_, Tryz.func6, by kernel_rfl, by decide +kernel⟩ (awake_ran m) w0) (okC m lf))
end
end Go.Proofs.YtlfhnopganplfaaGreatDoor.Sx
