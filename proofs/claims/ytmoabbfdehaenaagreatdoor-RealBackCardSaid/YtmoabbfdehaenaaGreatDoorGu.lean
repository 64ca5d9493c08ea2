/- The table with strings.Repeat and awake as functions with known answers. -/
import Derived.Test.YtmoabbfdehaenaaGreatDoorSt
import Derived.Test.YtmoabbfdehaenaaGreatDoorSh
import Derived.Test.YtmoabbfdehaenaaGreatDoorVa
import Derived.Test.YtmoabbfdehaenaaGreatDoorRe
set_option linter.unusedVariables false
set_option linter.unusedSimpArgs false
set_option linter.unusedSectionVars false
namespace Go.Proofs.YtmoabbfdehaenaaGreatDoor.Sx
open Go Go.Proofs.YtmoabbfdehaenaaGreatDoor.Ev
noncomputable section
def tabC : ST := .node 28 tabS (.node 29 (.pr 29 repP) tabS)
def tabA : ST := .node 4 tabC (.node 5 (.pr 5 yesM.at) tabC)
theorem okC (m : Int) (lf : Ev.Loc) : letI := rhoV m lf rfl; ST.Ok Tryz.prog tabC := by
  letI := rhoV m lf rfl
  exact .node _ _ _ okS (.node _ _ _ (.pr _ _ fun w0 => pr_rep ⟨_, Tryz.func29, by kernel_rfl, by decide +kernel⟩ (fun s c w h1 h2 => Go.Proofs.Tryz.strings_Repeat s c w h1 h2) w0) okS)
theorem awake_ran (m : Int) : gc [] (SF tabC 900 5 [] (gH m) .no) = some (.bool true, []) := by kernel_rfl
theorem okA (m : Int) (lf : Ev.Loc) : letI := rhoV m lf rfl; ST.Ok Tryz.prog tabA := by
  letI := rhoV m lf rfl
  exact .node _ _ _ (okC m lf) (.node _ _ _ (.pr _ _ fun w0 => pr_yes (n := 900) (by kernel_rfl) (okC m lf) ⟨_, Tryz.func5, by kernel_rfl, by decide +kernel⟩ (awake_ran m) w0) (okC m lf))
end
end Go.Proofs.YtmoabbfdehaenaaGreatDoor.Sx
