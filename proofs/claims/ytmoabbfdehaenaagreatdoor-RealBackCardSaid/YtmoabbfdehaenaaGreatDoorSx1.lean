/- Functions, printed by a program of ours: their code, what they do, and that it is so. -/
import Derived.Test.YtmoabbfdehaenaaGreatDoorSp
set_option maxRecDepth 8000
set_option linter.unusedVariables false
namespace Go.Proofs.YtmoabbfdehaenaaGreatDoor.Sx
open Go Go.Proofs.YtmoabbfdehaenaaGreatDoor.Ev
set_option linter.unusedSectionVars false
noncomputable section
variable [Rho]
variable {D : CallD} {m : Nat} {E : XE}
/- 99 -/
def v99_1 : List Pos := [p2, p3, p4]
def c99_1 : XC := (.sO [.mv p140 q2 .v, .mv p141 q3 tI, .mv p142 q4 .v, .mv p2 q140 .v, .mv p3 q141 tI, .mv p4 q142 .v] (.s .ret))
def v99_0 : List Pos := [p0, p3, p4]
def c99_0 : XC := (.sO [.al p23 (.new [(.int .u8 (.ofNat 0)), (.int .u8 (.ofNat 0)), (.int .u8 (.ofNat 0)), (.int .u8 (.ofNat 0)), (.int .u8 (.ofNat 0)), (.int .u8 (.ofNat 0)), (.int .u8 (.ofNat 0)), (.int .u8 (.ofNat 0)), (.int .u8 (.ofNat 0)), (.int .u8 (.ofNat 0)), (.int .u8 (.ofNat 0)), (.int .u8 (.ofNat 0)), (.int .u8 (.ofNat 0)), (.int .u8 (.ofNat 0)), (.int .u8 (.ofNat 0)), (.int .u8 (.ofNat 0)), (.int .u8 (.ofNat 0)), (.int .u8 (.ofNat 0)), (.int .u8 (.ofNat 0)), (.int .u8 (.ofNat 0)), (.int .u8 (.ofNat 0)), (.int .u8 (.ofNat 0)), (.int .u8 (.ofNat 0)), (.int .u8 (.ofNat 0)), (.int .u8 (.ofNat 0)), (.int .u8 (.ofNat 0)), (.int .u8 (.ofNat 0)), (.int .u8 (.ofNat 0)), (.int .u8 (.ofNat 0)), (.int .u8 (.ofNat 0)), (.int .u8 (.ofNat 0)), (.int .u8 (.ofNat 0)), (.int .u8 (.ofNat 0)), (.int .u8 (.ofNat 0)), (.int .u8 (.ofNat 0)), (.int .u8 (.ofNat 0)), (.int .u8 (.ofNat 0)), (.int .u8 (.ofNat 0)), (.int .u8 (.ofNat 0)), (.int .u8 (.ofNat 0)), (.int .u8 (.ofNat 0)), (.int .u8 (.ofNat 0)), (.int .u8 (.ofNat 0)), (.int .u8 (.ofNat 0)), (.int .u8 (.ofNat 0)), (.int .u8 (.ofNat 0)), (.int .u8 (.ofNat 0)), (.int .u8 (.ofNat 0)), (.int .u8 (.ofNat 0)), (.int .u8 (.ofNat 0)), (.int .u8 (.ofNat 0)), (.int .u8 (.ofNat 0)), (.int .u8 (.ofNat 0)), (.int .u8 (.ofNat 0)), (.int .u8 (.ofNat 0)), (.int .u8 (.ofNat 0)), (.int .u8 (.ofNat 0)), (.int .u8 (.ofNat 0)), (.int .u8 (.ofNat 0)), (.int .u8 (.ofNat 0)), (.int .u8 (.ofNat 0)), (.int .u8 (.ofNat 0)), (.int .u8 (.ofNat 0)), (.int .u8 (.ofNat 0)), (.int .u8 (.ofNat 0)), (.int .u8 (.ofNat 0)), (.int .u8 (.ofNat 0)), (.int .u8 (.ofNat 0)), (.int .u8 (.ofNat 0)), (.int .u8 (.ofNat 0)), (.int .u8 (.ofNat 0)), (.int .u8 (.ofNat 0)), (.int .u8 (.ofNat 0)), (.int .u8 (.ofNat 0)), (.int .u8 (.ofNat 0)), (.int .u8 (.ofNat 0)), (.int .u8 (.ofNat 0)), (.int .u8 (.ofNat 0)), (.int .u8 (.ofNat 0)), (.int .u8 (.ofNat 0)), (.int .u8 (.ofNat 0)), (.int .u8 (.ofNat 0)), (.int .u8 (.ofNat 0)), (.int .u8 (.ofNat 0)), (.int .u8 (.ofNat 0)), (.int .u8 (.ofNat 0)), (.int .u8 (.ofNat 0)), (.int .u8 (.ofNat 0)), (.int .u8 (.ofNat 0)), (.int .u8 (.ofNat 0)), (.int .u8 (.ofNat 0)), (.int .u8 (.ofNat 0)), (.int .u8 (.ofNat 0)), (.int .u8 (.ofNat 0)), (.int .u8 (.ofNat 0)), (.int .u8 (.ofNat 0)), (.int .u8 (.ofNat 0)), (.int .u8 (.ofNat 0)), (.int .u8 (.ofNat 0)), (.int .u8 (.ofNat 0)), (.int .u8 (.ofNat 0)), (.int .u8 (.ofNat 0)), (.int .u8 (.ofNat 0)), (.int .u8 (.ofNat 0)), (.int .u8 (.ofNat 0)), (.int .u8 (.ofNat 0)), (.int .u8 (.ofNat 0)), (.int .u8 (.ofNat 0)), (.int .u8 (.ofNat 0)), (.int .u8 (.ofNat 0)), (.int .u8 (.ofNat 0)), (.int .u8 (.ofNat 0)), (.int .u8 (.ofNat 0)), (.int .u8 (.ofNat 0)), (.int .u8 (.ofNat 0)), (.int .u8 (.ofNat 0)), (.int .u8 (.ofNat 0)), (.int .u8 (.ofNat 0)), (.int .u8 (.ofNat 0)), (.int .u8 (.ofNat 0)), (.int .u8 (.ofNat 0)), (.int .u8 (.ofNat 0)), (.int .u8 (.ofNat 0)), (.int .u8 (.ofNat 0)), (.int .u8 (.ofNat 0)), (.int .u8 (.ofNat 0)), (.int .u8 (.ofNat 0)), (.int .u8 (.ofNat 0)), (.int .u8 (.ofNat 0)), (.int .u8 (.ofNat 0)), (.int .u8 (.ofNat 0)), (.int .u8 (.ofNat 0)), (.int .u8 (.ofNat 0)), (.int .u8 (.ofNat 0)), (.int .u8 (.ofNat 0)), (.int .u8 (.ofNat 0)), (.int .u8 (.ofNat 0)), (.int .u8 (.ofNat 0)), (.int .u8 (.ofNat 0)), (.int .u8 (.ofNat 0)), (.int .u8 (.ofNat 0)), (.int .u8 (.ofNat 0)), (.int .u8 (.ofNat 0)), (.int .u8 (.ofNat 0)), (.int .u8 (.ofNat 0)), (.int .u8 (.ofNat 0)), (.int .u8 (.ofNat 0)), (.int .u8 (.ofNat 0)), (.int .u8 (.ofNat 0)), (.int .u8 (.ofNat 0)), (.int .u8 (.ofNat 0)), (.int .u8 (.ofNat 0)), (.int .u8 (.ofNat 0)), (.int .u8 (.ofNat 0)), (.int .u8 (.ofNat 0)), (.int .u8 (.ofNat 0)), (.int .u8 (.ofNat 0)), (.int .u8 (.ofNat 0)), (.int .u8 (.ofNat 0)), (.int .u8 (.ofNat 0)), (.int .u8 (.ofNat 0)), (.int .u8 (.ofNat 0)), (.int .u8 (.ofNat 0)), (.int .u8 (.ofNat 0)), (.int .u8 (.ofNat 0)), (.int .u8 (.ofNat 0)), (.int .u8 (.ofNat 0)), (.int .u8 (.ofNat 0)), (.int .u8 (.ofNat 0)), (.int .u8 (.ofNat 0)), (.int .u8 (.ofNat 0)), (.int .u8 (.ofNat 0)), (.int .u8 (.ofNat 0)), (.int .u8 (.ofNat 0)), (.int .u8 (.ofNat 0)), (.int .u8 (.ofNat 0)), (.int .u8 (.ofNat 0)), (.int .u8 (.ofNat 0)), (.int .u8 (.ofNat 0)), (.int .u8 (.ofNat 0)), (.int .u8 (.ofNat 0)), (.int .u8 (.ofNat 0)), (.int .u8 (.ofNat 0)), (.int .u8 (.ofNat 0)), (.int .u8 (.ofNat 0)), (.int .u8 (.ofNat 0)), (.int .u8 (.ofNat 0)), (.int .u8 (.ofNat 0)), (.int .u8 (.ofNat 0)), (.int .u8 (.ofNat 0)), (.int .u8 (.ofNat 0)), (.int .u8 (.ofNat 0)), (.int .u8 (.ofNat 0)), (.int .u8 (.ofNat 0)), (.int .u8 (.ofNat 0)), (.int .u8 (.ofNat 0)), (.int .u8 (.ofNat 0)), (.int .u8 (.ofNat 0)), (.int .u8 (.ofNat 0)), (.int .u8 (.ofNat 0)), (.int .u8 (.ofNat 0)), (.int .u8 (.ofNat 0)), (.int .u8 (.ofNat 0)), (.int .u8 (.ofNat 0)), (.int .u8 (.ofNat 0)), (.int .u8 (.ofNat 0)), (.int .u8 (.ofNat 0)), (.int .u8 (.ofNat 0)), (.int .u8 (.ofNat 0)), (.int .u8 (.ofNat 0)), (.int .u8 (.ofNat 0)), (.int .u8 (.ofNat 0)), (.int .u8 (.ofNat 0)), (.int .u8 (.ofNat 0)), (.int .u8 (.ofNat 0)), (.int .u8 (.ofNat 0)), (.int .u8 (.ofNat 0)), (.int .u8 (.ofNat 0)), (.int .u8 (.ofNat 0)), (.int .u8 (.ofNat 0)), (.int .u8 (.ofNat 0)), (.int .u8 (.ofNat 0)), (.int .u8 (.ofNat 0)), (.int .u8 (.ofNat 0)), (.int .u8 (.ofNat 0)), (.int .u8 (.ofNat 0)), (.int .u8 (.ofNat 0)), (.int .u8 (.ofNat 0)), (.int .u8 (.ofNat 0)), (.int .u8 (.ofNat 0)), (.int .u8 (.ofNat 0)), (.int .u8 (.ofNat 0)), (.int .u8 (.ofNat 0)), (.int .u8 (.ofNat 0)), (.int .u8 (.ofNat 0)), (.int .u8 (.ofNat 0)), (.int .u8 (.ofNat 0)), (.int .u8 (.ofNat 0)), (.int .u8 (.ofNat 0)), (.int .u8 (.ofNat 0)), (.int .u8 (.ofNat 0)), (.int .u8 (.ofNat 0)), (.int .u8 (.ofNat 0)), (.int .u8 (.ofNat 0)), (.int .u8 (.ofNat 0)), (.int .u8 (.ofNat 0)), (.int .u8 (.ofNat 0)), (.int .u8 (.ofNat 0)), (.int .u8 (.ofNat 0)), (.int .u8 (.ofNat 0)), (.int .u8 (.ofNat 0)), (.int .u8 (.ofNat 0)), (.int .u8 (.ofNat 0)), (.int .u8 (.ofNat 0)), (.int .u8 (.ofNat 0)), (.int .u8 (.ofNat 0)), (.int .u8 (.ofNat 0)), (.int .u8 (.ofNat 0)), (.int .u8 (.ofNat 0)), (.int .u8 (.ofNat 0)), (.int .u8 (.ofNat 0)), (.int .u8 (.ofNat 0)), (.int .u8 (.ofNat 0)), (.int .u8 (.ofNat 0)), (.int .u8 (.ofNat 0)), (.int .u8 (.ofNat 0)), (.int .u8 (.ofNat 0)), (.int .u8 (.ofNat 0)), (.int .u8 (.ofNat 0)), (.int .u8 (.ofNat 0)), (.int .u8 (.ofNat 0)), (.int .u8 (.ofNat 0)), (.int .u8 (.ofNat 0)), (.int .u8 (.ofNat 0)), (.int .u8 (.ofNat 0)), (.int .u8 (.ofNat 0)), (.int .u8 (.ofNat 0)), (.int .u8 (.ofNat 0)), (.int .u8 (.ofNat 0)), (.int .u8 (.ofNat 0)), (.int .u8 (.ofNat 0)), (.int .u8 (.ofNat 0)), (.int .u8 (.ofNat 0)), (.int .u8 (.ofNat 0)), (.int .u8 (.ofNat 0)), (.int .u8 (.ofNat 0)), (.int .u8 (.ofNat 0)), (.int .u8 (.ofNat 0)), (.int .u8 (.ofNat 0)), (.int .u8 (.ofNat 0)), (.int .u8 (.ofNat 0)), (.int .u8 (.ofNat 0)), (.int .u8 (.ofNat 0)), (.int .u8 (.ofNat 0)), (.int .u8 (.ofNat 0)), (.int .u8 (.ofNat 0)), (.int .u8 (.ofNat 0)), (.int .u8 (.ofNat 0)), (.int .u8 (.ofNat 0)), (.int .u8 (.ofNat 0)), (.int .u8 (.ofNat 0)), (.int .u8 (.ofNat 0)), (.int .u8 (.ofNat 0)), (.int .u8 (.ofNat 0)), (.int .u8 (.ofNat 0)), (.int .u8 (.ofNat 0)), (.int .u8 (.ofNat 0)), (.int .u8 (.ofNat 0)), (.int .u8 (.ofNat 0)), (.int .u8 (.ofNat 0)), (.int .u8 (.ofNat 0)), (.int .u8 (.ofNat 0)), (.int .u8 (.ofNat 0)), (.int .u8 (.ofNat 0)), (.int .u8 (.ofNat 0)), (.int .u8 (.ofNat 0)), (.int .u8 (.ofNat 0)), (.int .u8 (.ofNat 0)), (.int .u8 (.ofNat 0)), (.int .u8 (.ofNat 0)), (.int .u8 (.ofNat 0)), (.int .u8 (.ofNat 0)), (.int .u8 (.ofNat 0)), (.int .u8 (.ofNat 0)), (.int .u8 (.ofNat 0)), (.int .u8 (.ofNat 0)), (.int .u8 (.ofNat 0)), (.int .u8 (.ofNat 0)), (.int .u8 (.ofNat 0)), (.int .u8 (.ofNat 0)), (.int .u8 (.ofNat 0)), (.int .u8 (.ofNat 0)), (.int .u8 (.ofNat 0)), (.int .u8 (.ofNat 0)), (.int .u8 (.ofNat 0)), (.int .u8 (.ofNat 0)), (.int .u8 (.ofNat 0)), (.int .u8 (.ofNat 0)), (.int .u8 (.ofNat 0)), (.int .u8 (.ofNat 0)), (.int .u8 (.ofNat 0)), (.int .u8 (.ofNat 0)), (.int .u8 (.ofNat 0)), (.int .u8 (.ofNat 0)), (.int .u8 (.ofNat 0)), (.int .u8 (.ofNat 0)), (.int .u8 (.ofNat 0)), (.int .u8 (.ofNat 0)), (.int .u8 (.ofNat 0)), (.int .u8 (.ofNat 0)), (.int .u8 (.ofNat 0)), (.int .u8 (.ofNat 0)), (.int .u8 (.ofNat 0)), (.int .u8 (.ofNat 0)), (.int .u8 (.ofNat 0)), (.int .u8 (.ofNat 0)), (.int .u8 (.ofNat 0)), (.int .u8 (.ofNat 0)), (.int .u8 (.ofNat 0)), (.int .u8 (.ofNat 0)), (.int .u8 (.ofNat 0)), (.int .u8 (.ofNat 0)), (.int .u8 (.ofNat 0)), (.int .u8 (.ofNat 0)), (.int .u8 (.ofNat 0)), (.int .u8 (.ofNat 0)), (.int .u8 (.ofNat 0)), (.int .u8 (.ofNat 0)), (.int .u8 (.ofNat 0)), (.int .u8 (.ofNat 0)), (.int .u8 (.ofNat 0)), (.int .u8 (.ofNat 0)), (.int .u8 (.ofNat 0)), (.int .u8 (.ofNat 0)), (.int .u8 (.ofNat 0)), (.int .u8 (.ofNat 0)), (.int .u8 (.ofNat 0)), (.int .u8 (.ofNat 0)), (.int .u8 (.ofNat 0)), (.int .u8 (.ofNat 0)), (.int .u8 (.ofNat 0)), (.int .u8 (.ofNat 0)), (.int .u8 (.ofNat 0)), (.int .u8 (.ofNat 0)), (.int .u8 (.ofNat 0)), (.int .u8 (.ofNat 0)), (.int .u8 (.ofNat 0)), (.int .u8 (.ofNat 0)), (.int .u8 (.ofNat 0)), (.int .u8 (.ofNat 0)), (.int .u8 (.ofNat 0)), (.int .u8 (.ofNat 0)), (.int .u8 (.ofNat 0)), (.int .u8 (.ofNat 0)), (.int .u8 (.ofNat 0)), (.int .u8 (.ofNat 0)), (.int .u8 (.ofNat 0)), (.int .u8 (.ofNat 0)), (.int .u8 (.ofNat 0)), (.int .u8 (.ofNat 0)), (.int .u8 (.ofNat 0)), (.int .u8 (.ofNat 0)), (.int .u8 (.ofNat 0)), (.int .u8 (.ofNat 0)), (.int .u8 (.ofNat 0)), (.int .u8 (.ofNat 0)), (.int .u8 (.ofNat 0)), (.int .u8 (.ofNat 0)), (.int .u8 (.ofNat 0)), (.int .u8 (.ofNat 0)), (.int .u8 (.ofNat 0)), (.int .u8 (.ofNat 0)), (.int .u8 (.ofNat 0)), (.int .u8 (.ofNat 0)), (.int .u8 (.ofNat 0)), (.int .u8 (.ofNat 0)), (.int .u8 (.ofNat 0)), (.int .u8 (.ofNat 0)), (.int .u8 (.ofNat 0)), (.int .u8 (.ofNat 0)), (.int .u8 (.ofNat 0)), (.int .u8 (.ofNat 0)), (.int .u8 (.ofNat 0)), (.int .u8 (.ofNat 0)), (.int .u8 (.ofNat 0)), (.int .u8 (.ofNat 0)), (.int .u8 (.ofNat 0)), (.int .u8 (.ofNat 0)), (.int .u8 (.ofNat 0)), (.int .u8 (.ofNat 0)), (.int .u8 (.ofNat 0)), (.int .u8 (.ofNat 0)), (.int .u8 (.ofNat 0)), (.int .u8 (.ofNat 0)), (.int .u8 (.ofNat 0)), (.int .u8 (.ofNat 0)), (.int .u8 (.ofNat 0)), (.int .u8 (.ofNat 0)), (.int .u8 (.ofNat 0)), (.int .u8 (.ofNat 0)), (.int .u8 (.ofNat 0)), (.int .u8 (.ofNat 0)), (.int .u8 (.ofNat 0)), (.int .u8 (.ofNat 0)), (.int .u8 (.ofNat 0)), (.int .u8 (.ofNat 0)), (.int .u8 (.ofNat 0)), (.int .u8 (.ofNat 0)), (.int .u8 (.ofNat 0)), (.int .u8 (.ofNat 0)), (.int .u8 (.ofNat 0)), (.int .u8 (.ofNat 0)), (.int .u8 (.ofNat 0)), (.int .u8 (.ofNat 0)), (.int .u8 (.ofNat 0)), (.int .u8 (.ofNat 0)), (.int .u8 (.ofNat 0)), (.int .u8 (.ofNat 0)), (.int .u8 (.ofNat 0)), (.int .u8 (.ofNat 0)), (.int .u8 (.ofNat 0)), (.int .u8 (.ofNat 0)), (.int .u8 (.ofNat 0)), (.int .u8 (.ofNat 0)), (.int .u8 (.ofNat 0)), (.int .u8 (.ofNat 0)), (.int .u8 (.ofNat 0)), (.int .u8 (.ofNat 0)), (.int .u8 (.ofNat 0)), (.int .u8 (.ofNat 0)), (.int .u8 (.ofNat 0)), (.int .u8 (.ofNat 0)), (.int .u8 (.ofNat 0)), (.int .u8 (.ofNat 0)), (.int .u8 (.ofNat 0)), (.int .u8 (.ofNat 0)), (.int .u8 (.ofNat 0)), (.int .u8 (.ofNat 0)), (.int .u8 (.ofNat 0)), (.int .u8 (.ofNat 0)), (.int .u8 (.ofNat 0)), (.int .u8 (.ofNat 0)), (.int .u8 (.ofNat 0)), (.int .u8 (.ofNat 0)), (.int .u8 (.ofNat 0)), (.int .u8 (.ofNat 0)), (.int .u8 (.ofNat 0)), (.int .u8 (.ofNat 0)), (.int .u8 (.ofNat 0)), (.int .u8 (.ofNat 0)), (.int .u8 (.ofNat 0)), (.int .u8 (.ofNat 0)), (.int .u8 (.ofNat 0)), (.int .u8 (.ofNat 0)), (.int .u8 (.ofNat 0)), (.int .u8 (.ofNat 0)), (.int .u8 (.ofNat 0)), (.int .u8 (.ofNat 0)), (.int .u8 (.ofNat 0)), (.int .u8 (.ofNat 0)), (.int .u8 (.ofNat 0)), (.int .u8 (.ofNat 0)), (.int .u8 (.ofNat 0)), (.int .u8 (.ofNat 0)), (.int .u8 (.ofNat 0)), (.int .u8 (.ofNat 0)), (.int .u8 (.ofNat 0)), (.int .u8 (.ofNat 0)), (.int .u8 (.ofNat 0)), (.int .u8 (.ofNat 0)), (.int .u8 (.ofNat 0)), (.int .u8 (.ofNat 0)), (.int .u8 (.ofNat 0)), (.int .u8 (.ofNat 0)), (.int .u8 (.ofNat 0)), (.int .u8 (.ofNat 0)), (.int .u8 (.ofNat 0)), (.int .u8 (.ofNat 0)), (.int .u8 (.ofNat 0)), (.int .u8 (.ofNat 0)), (.int .u8 (.ofNat 0)), (.int .u8 (.ofNat 0)), (.int .u8 (.ofNat 0)), (.int .u8 (.ofNat 0)), (.int .u8 (.ofNat 0)), (.int .u8 (.ofNat 0)), (.int .u8 (.ofNat 0)), (.int .u8 (.ofNat 0)), (.int .u8 (.ofNat 0)), (.int .u8 (.ofNat 0)), (.int .u8 (.ofNat 0)), (.int .u8 (.ofNat 0)), (.int .u8 (.ofNat 0)), (.int .u8 (.ofNat 0)), (.int .u8 (.ofNat 0)), (.int .u8 (.ofNat 0)), (.int .u8 (.ofNat 0)), (.int .u8 (.ofNat 0)), (.int .u8 (.ofNat 0)), (.int .u8 (.ofNat 0)), (.int .u8 (.ofNat 0)), (.int .u8 (.ofNat 0)), (.int .u8 (.ofNat 0)), (.int .u8 (.ofNat 0)), (.int .u8 (.ofNat 0)), (.int .u8 (.ofNat 0)), (.int .u8 (.ofNat 0)), (.int .u8 (.ofNat 0)), (.int .u8 (.ofNat 0)), (.int .u8 (.ofNat 0)), (.int .u8 (.ofNat 0)), (.int .u8 (.ofNat 0)), (.int .u8 (.ofNat 0)), (.int .u8 (.ofNat 0)), (.int .u8 (.ofNat 0)), (.int .u8 (.ofNat 0)), (.int .u8 (.ofNat 0)), (.int .u8 (.ofNat 0)), (.int .u8 (.ofNat 0)), (.int .u8 (.ofNat 0)), (.int .u8 (.ofNat 0)), (.int .u8 (.ofNat 0)), (.int .u8 (.ofNat 0)), (.int .u8 (.ofNat 0)), (.int .u8 (.ofNat 0)), (.int .u8 (.ofNat 0)), (.int .u8 (.ofNat 0)), (.int .u8 (.ofNat 0)), (.int .u8 (.ofNat 0)), (.int .u8 (.ofNat 0)), (.int .u8 (.ofNat 0)), (.int .u8 (.ofNat 0)), (.int .u8 (.ofNat 0)), (.int .u8 (.ofNat 0)), (.int .u8 (.ofNat 0)), (.int .u8 (.ofNat 0)), (.int .u8 (.ofNat 0)), (.int .u8 (.ofNat 0)), (.int .u8 (.ofNat 0)), (.int .u8 (.ofNat 0)), (.int .u8 (.ofNat 0)), (.int .u8 (.ofNat 0)), (.int .u8 (.ofNat 0)), (.int .u8 (.ofNat 0)), (.int .u8 (.ofNat 0)), (.int .u8 (.ofNat 0)), (.int .u8 (.ofNat 0)), (.int .u8 (.ofNat 0)), (.int .u8 (.ofNat 0)), (.int .u8 (.ofNat 0)), (.int .u8 (.ofNat 0)), (.int .u8 (.ofNat 0)), (.int .u8 (.ofNat 0)), (.int .u8 (.ofNat 0)), (.int .u8 (.ofNat 0)), (.int .u8 (.ofNat 0)), (.int .u8 (.ofNat 0)), (.int .u8 (.ofNat 0)), (.int .u8 (.ofNat 0)), (.int .u8 (.ofNat 0)), (.int .u8 (.ofNat 0)), (.int .u8 (.ofNat 0)), (.int .u8 (.ofNat 0)), (.int .u8 (.ofNat 0)), (.int .u8 (.ofNat 0)), (.int .u8 (.ofNat 0)), (.int .u8 (.ofNat 0)), (.int .u8 (.ofNat 0)), (.int .u8 (.ofNat 0)), (.int .u8 (.ofNat 0)), (.int .u8 (.ofNat 0)), (.int .u8 (.ofNat 0)), (.int .u8 (.ofNat 0)), (.int .u8 (.ofNat 0)), (.int .u8 (.ofNat 0)), (.int .u8 (.ofNat 0)), (.int .u8 (.ofNat 0)), (.int .u8 (.ofNat 0)), (.int .u8 (.ofNat 0)), (.int .u8 (.ofNat 0)), (.int .u8 (.ofNat 0)), (.int .u8 (.ofNat 0)), (.int .u8 (.ofNat 0)), (.int .u8 (.ofNat 0)), (.int .u8 (.ofNat 0)), (.int .u8 (.ofNat 0)), (.int .u8 (.ofNat 0)), (.int .u8 (.ofNat 0)), (.int .u8 (.ofNat 0)), (.int .u8 (.ofNat 0)), (.int .u8 (.ofNat 0)), (.int .u8 (.ofNat 0)), (.int .u8 (.ofNat 0)), (.int .u8 (.ofNat 0)), (.int .u8 (.ofNat 0)), (.int .u8 (.ofNat 0)), (.int .u8 (.ofNat 0)), (.int .u8 (.ofNat 0)), (.int .u8 (.ofNat 0)), (.int .u8 (.ofNat 0)), (.int .u8 (.ofNat 0)), (.int .u8 (.ofNat 0)), (.int .u8 (.ofNat 0)), (.int .u8 (.ofNat 0)), (.int .u8 (.ofNat 0)), (.int .u8 (.ofNat 0)), (.int .u8 (.ofNat 0)), (.int .u8 (.ofNat 0)), (.int .u8 (.ofNat 0)), (.int .u8 (.ofNat 0)), (.int .u8 (.ofNat 0)), (.int .u8 (.ofNat 0)), (.int .u8 (.ofNat 0)), (.int .u8 (.ofNat 0)), (.int .u8 (.ofNat 0)), (.int .u8 (.ofNat 0)), (.int .u8 (.ofNat 0)), (.int .u8 (.ofNat 0)), (.int .u8 (.ofNat 0)), (.int .u8 (.ofNat 0)), (.int .u8 (.ofNat 0)), (.int .u8 (.ofNat 0)), (.int .u8 (.ofNat 0)), (.int .u8 (.ofNat 0)), (.int .u8 (.ofNat 0)), (.int .u8 (.ofNat 0)), (.int .u8 (.ofNat 0)), (.int .u8 (.ofNat 0)), (.int .u8 (.ofNat 0)), (.int .u8 (.ofNat 0)), (.int .u8 (.ofNat 0)), (.int .u8 (.ofNat 0)), (.int .u8 (.ofNat 0)), (.int .u8 (.ofNat 0)), (.int .u8 (.ofNat 0)), (.int .u8 (.ofNat 0)), (.int .u8 (.ofNat 0)), (.int .u8 (.ofNat 0)), (.int .u8 (.ofNat 0)), (.int .u8 (.ofNat 0)), (.int .u8 (.ofNat 0)), (.int .u8 (.ofNat 0)), (.int .u8 (.ofNat 0)), (.int .u8 (.ofNat 0)), (.int .u8 (.ofNat 0)), (.int .u8 (.ofNat 0)), (.int .u8 (.ofNat 0)), (.int .u8 (.ofNat 0)), (.int .u8 (.ofNat 0)), (.int .u8 (.ofNat 0)), (.int .u8 (.ofNat 0)), (.int .u8 (.ofNat 0)), (.int .u8 (.ofNat 0)), (.int .u8 (.ofNat 0)), (.int .u8 (.ofNat 0)), (.int .u8 (.ofNat 0)), (.int .u8 (.ofNat 0)), (.int .u8 (.ofNat 0)), (.int .u8 (.ofNat 0)), (.int .u8 (.ofNat 0)), (.int .u8 (.ofNat 0)), (.int .u8 (.ofNat 0)), (.int .u8 (.ofNat 0)), (.int .u8 (.ofNat 0)), (.int .u8 (.ofNat 0)), (.int .u8 (.ofNat 0)), (.int .u8 (.ofNat 0)), (.int .u8 (.ofNat 0)), (.int .u8 (.ofNat 0)), (.int .u8 (.ofNat 0)), (.int .u8 (.ofNat 0)), (.int .u8 (.ofNat 0)), (.int .u8 (.ofNat 0)), (.int .u8 (.ofNat 0)), (.int .u8 (.ofNat 0)), (.int .u8 (.ofNat 0)), (.int .u8 (.ofNat 0)), (.int .u8 (.ofNat 0)), (.int .u8 (.ofNat 0)), (.int .u8 (.ofNat 0)), (.int .u8 (.ofNat 0)), (.int .u8 (.ofNat 0)), (.int .u8 (.ofNat 0)), (.int .u8 (.ofNat 0)), (.int .u8 (.ofNat 0)), (.int .u8 (.ofNat 0)), (.int .u8 (.ofNat 0)), (.int .u8 (.ofNat 0)), (.int .u8 (.ofNat 0)), (.int .u8 (.ofNat 0)), (.int .u8 (.ofNat 0)), (.int .u8 (.ofNat 0)), (.int .u8 (.ofNat 0)), (.int .u8 (.ofNat 0)), (.int .u8 (.ofNat 0)), (.int .u8 (.ofNat 0)), (.int .u8 (.ofNat 0)), (.int .u8 (.ofNat 0)), (.int .u8 (.ofNat 0)), (.int .u8 (.ofNat 0)), (.int .u8 (.ofNat 0)), (.int .u8 (.ofNat 0)), (.int .u8 (.ofNat 0)), (.int .u8 (.ofNat 0)), (.int .u8 (.ofNat 0)), (.int .u8 (.ofNat 0)), (.int .u8 (.ofNat 0)), (.int .u8 (.ofNat 0)), (.int .u8 (.ofNat 0)), (.int .u8 (.ofNat 0)), (.int .u8 (.ofNat 0)), (.int .u8 (.ofNat 0)), (.int .u8 (.ofNat 0)), (.int .u8 (.ofNat 0)), (.int .u8 (.ofNat 0)), (.int .u8 (.ofNat 0)), (.int .u8 (.ofNat 0)), (.int .u8 (.ofNat 0)), (.int .u8 (.ofNat 0)), (.int .u8 (.ofNat 0)), (.int .u8 (.ofNat 0)), (.int .u8 (.ofNat 0)), (.int .u8 (.ofNat 0)), (.int .u8 (.ofNat 0)), (.int .u8 (.ofNat 0)), (.int .u8 (.ofNat 0)), (.int .u8 (.ofNat 0)), (.int .u8 (.ofNat 0)), (.int .u8 (.ofNat 0)), (.int .u8 (.ofNat 0)), (.int .u8 (.ofNat 0)), (.int .u8 (.ofNat 0)), (.int .u8 (.ofNat 0)), (.int .u8 (.ofNat 0)), (.int .u8 (.ofNat 0)), (.int .u8 (.ofNat 0)), (.int .u8 (.ofNat 0)), (.int .u8 (.ofNat 0)), (.int .u8 (.ofNat 0)), (.int .u8 (.ofNat 0)), (.int .u8 (.ofNat 0)), (.int .u8 (.ofNat 0)), (.int .u8 (.ofNat 0)), (.int .u8 (.ofNat 0)), (.int .u8 (.ofNat 0)), (.int .u8 (.ofNat 0)), (.int .u8 (.ofNat 0)), (.int .u8 (.ofNat 0)), (.int .u8 (.ofNat 0)), (.int .u8 (.ofNat 0)), (.int .u8 (.ofNat 0)), (.int .u8 (.ofNat 0)), (.int .u8 (.ofNat 0)), (.int .u8 (.ofNat 0)), (.int .u8 (.ofNat 0)), (.int .u8 (.ofNat 0)), (.int .u8 (.ofNat 0)), (.int .u8 (.ofNat 0)), (.int .u8 (.ofNat 0)), (.int .u8 (.ofNat 0)), (kI 0), (kI 0), (.bool false), (.bool false)])] (.seq (.seq (.oX [.mv p125 q0 .s, .mv p126 q3 tI, .P p127 (.slice .str q125 none (some q126) none) .s, .cl p128 112 [q23, q127] .b, .P p129 (.un .not q128) .b]) (.cond q129 (.seq (.oX [.mv p130 q3 tI, .P p131 (.mkif 94 (ci 2)) .v, .mv p2 (.c (.flt .f64 0)) .v, .mv p3 q130 tI, .mv p4 q131 .v]) .ret) .skip)) (.sO [.cl p133 113 [q23, (.c (.ptr p7 0))] .v, .mv p132 q133 .v, .P p134 (.ext q132 0) (.i .u64), .P p135 (.ext q132 1) .b, .mv p24 q134 (.i .u64), .mv p25 q135 .b] (.sO [.mv p136 q24 (.i .u64), .P p137 (.xt .ffrom [q136]) .v, .mv p2 q137 .v] (.sj v99_1 (.sO [.mv p138 q25 .b] (.cond q138 (.s (.oX [.P p139 (.mkif 94 (ci 1)) .v, .mv p4 q139 .v])) (.s .skip))) c99_1)))))
def v99_2 : List Pos := [p0, p3, p4, p8, p9, p11, p16]
def c99_2 : XC := (.sO [.mv p100 q8 (.i .u64), .mv p101 q9 tI, .mv p102 q16 (.i .u64), .cl p103 117 [q100, q101, q102] .v, .mv p99 q103 .v, .P p104 (.ext q99 0) .v, .P p105 (.ext q99 1) .v, .mv p19 q104 .v, .mv p20 q105 .v] (.seq (.seq (.oX [.mv p106 q11 .b, .P p107 (.un .not q106) .b]) (.cond q107 (.seq (.oX [.mv p108 q19 .v, .mv p109 q3 tI, .mv p110 q20 .v, .mv p2 q108 .v, .mv p3 q109 tI, .mv p4 q110 .v]) .ret) .skip)) (.sO [.mv p112 q8 (.i .u64), .bn p113 .add q112 (.c (.int .u64 (.ofNat 1))) (.i .u64), .mv p114 q9 tI, .mv p115 q16 (.i .u64), .cl p116 117 [q113, q114, q115] .v, .mv p111 q116 .v, .P p117 (.ext q111 0) .v, .P p118 (.ext q111 1) .v, .mv p21 q117 .v, .mv p22 q118 .v] (.sO [.mv p119 q19 .v, .mv p120 q21 .v, .bn p121 .eql q119 q120 .b] (.cond q121 (.sO [.mv p122 q19 .v, .mv p123 q3 tI, .mv p124 q20 .v, .mv p2 q122 .v, .mv p3 q123 tI, .mv p4 q124 .v] (.s .ret)) (.s .skip))))))
def c99_e : XC := (.sO [.mv p2 (.c (.flt .f64 0)) .v, .mv p3 (ci 0) tI, .mv p4 (.c .nili) .v] (.seq (.seq (.oX [.mv p27 q0 .s, .cl p28 105 [q27] .v, .mv p26 q28 .v, .P p29 (.ext q26 0) .v, .P p30 (.ext q26 1) tI, .P p31 (.ext q26 2) .b, .mv p5 q29 .v, .mv p6 q30 tI, .mv p7 q31 .b]) (.seq (.oX [.mv p32 q7 .b]) (.cond q32 (.seq (.oX [.mv p33 q5 .v, .mv p34 q6 tI, .mv p2 q33 .v, .mv p3 q34 tI, .mv p4 (.c .nili) .v]) .ret) .skip))) (.sO [.mv p36 q0 .s, .cl p37 106 [q36] .v, .mv p35 q37 .v, .P p38 (.ext q35 0) (.i .u64), .P p39 (.ext q35 1) tI, .P p40 (.ext q35 2) .b, .P p41 (.ext q35 3) .b, .P p42 (.ext q35 4) .b, .P p43 (.ext q35 5) tI, .P p44 (.ext q35 6) .b, .mv p8 q38 (.i .u64), .mv p9 q39 tI, .mv p10 q40 .b, .mv p11 q41 .b, .mv p12 q42 .b, .mv p3 q43 tI, .mv p13 q44 .b] (.seq (.seq (.oX [.mv p45 q13 .b, .P p46 (.un .not q45) .b]) (.cond q46 (.seq (.oX [.mv p47 q3 tI, .P p48 (.mkif 94 (ci 2)) .v, .mv p2 (.c (.flt .f64 0)) .v, .mv p3 q47 tI, .mv p4 q48 .v]) .ret) .skip)) (.seq (.seq (.oX [.mv p49 q12 .b]) (.cond q49 (.seq (.oX [.mv p51 q0 .s, .mv p52 q3 tI, .P p53 (.slice .str q51 none (some q52) none) .s, .mv p54 q8 (.i .u64), .mv p55 q9 tI, .mv p56 q10 .b, .mv p57 q11 .b, .cl p58 107 [q53, (.c (.ptr p7 0)), q54, q55, q56, q57] .v, .mv p50 q58 .v, .P p59 (.ext q50 0) .v, .P p60 (.ext q50 1) .v, .mv p14 q59 .v, .mv p15 q60 .v]) (.seq (.oX [.mv p61 q14 .v, .mv p62 q3 tI, .mv p63 q15 .v, .mv p2 q61 .v, .mv p3 q62 tI, .mv p4 q63 .v]) .ret)) .skip)) (.sj v99_0 (.sO [.ld p64 (.c (.ptr p6 0)) .b] (.cond q64 (.sO [.mv p65 q10 .b, .cl p66 114 [q65] (.i .u64), .bn p67 .shl q66 (.c (.int .u64 (.ofNat 63))) (.i .u64), .mv p16 q67 (.i .u64)] (.seq (.seq (.oX [.mv p68 q8 (.i .u64), .bn p69 .eql q68 (.c (.int .u64 (.ofNat 0))) .b]) (.cond q69 (.seq (.oX [.mv p70 q16 (.i .u64), .bn p71 .or q70 (.c (.int .u64 (.ofNat 0))) (.i .u64), .P p72 (.xt .ffrom [q71]) .v, .mv p73 q3 tI, .mv p2 q72 .v, .mv p3 q73 tI, .mv p4 (.c .nili) .v]) .ret) .skip)) (.seq (.seq (.oX [.mv p74 q9 tI, .bn p75 .gtr q74 (ci 310) .b]) (.cond q75 (.seq (.oX [.mv p76 q16 (.i .u64), .bn p77 .or q76 (.c (.int .u64 (.ofNat 9218868437227405312))) (.i .u64), .P p78 (.xt .ffrom [q77]) .v, .mv p79 q3 tI, .P p80 (.mkif 94 (ci 1)) .v, .mv p2 q78 .v, .mv p3 q79 tI, .mv p4 q80 .v]) .ret) .skip)) (.seq (.seq (.oX [.mv p81 q9 tI, .bn p82 .lss q81 (.c (.int .i64 (.negSucc 344))) .b]) (.cond q82 (.seq (.oX [.mv p83 q16 (.i .u64), .bn p84 .or q83 (.c (.int .u64 (.ofNat 0))) (.i .u64), .P p85 (.xt .ffrom [q84]) .v, .mv p86 q3 tI, .mv p2 q85 .v, .mv p3 q86 tI, .mv p4 (.c .nili) .v]) .ret) .skip)) (.sj v99_2 (.sO [.mv p87 q11 .b, .P p88 (.un .not q87) .b] (.cond q88 (.sO [.mv p90 q8 (.i .u64), .mv p91 q9 tI, .mv p92 q10 .b, .cl p93 116 [q90, q91, q92] .v, .mv p89 q93 .v, .P p94 (.ext q89 0) .v, .P p95 (.ext q89 1) .b, .mv p17 q94 .v, .mv p18 q95 .b] (.sO [.mv p96 q18 .b] (.cond q96 (.sO [.mv p97 q17 .v, .mv p98 q3 tI, .mv p2 q97 .v, .mv p3 q98 tI, .mv p4 (.c .nili) .v] (.s .ret)) (.s .skip)))) (.s .skip))) c99_2))))) (.s .skip))) c99_0))))))
def x99 : XFn := ⟨[.s], false, [(.tmp p2), (.tmp p3), (.tmp p4)], c99_e⟩
def e99_1 (k t2 t3 t4 h) := kN k [(p2, t2), (p3, (vI t3)), (p4, t4)] h
def S99_1 (D : CallD) (m : Nat) (t2 : AV) (t3 : Int) (t4 : AV) (h : HP) : Res2 :=
 some (.ret (.tup [t2, (vI t3), t4]) h, .no)
def e99_0 (k t0 t3 t4 h) := kN k [(p0, (vS t0)), (p3, (vI t3)), (p4, t4)] h
def S99_0 (D : CallD) (m : Nat) (t0 : LN) (t3 : Int) (t4 : AV) (h : HP) : Res2 :=
 let t23 := AV.ptr (HP.nxQ h) 0
 let h7 := HP.newQ h (.cells true [(.int .u8 (.ofNat 0)), (.int .u8 (.ofNat 0)), (.int .u8 (.ofNat 0)), (.int .u8 (.ofNat 0)), (.int .u8 (.ofNat 0)), (.int .u8 (.ofNat 0)), (.int .u8 (.ofNat 0)), (.int .u8 (.ofNat 0)), (.int .u8 (.ofNat 0)), (.int .u8 (.ofNat 0)), (.int .u8 (.ofNat 0)), (.int .u8 (.ofNat 0)), (.int .u8 (.ofNat 0)), (.int .u8 (.ofNat 0)), (.int .u8 (.ofNat 0)), (.int .u8 (.ofNat 0)), (.int .u8 (.ofNat 0)), (.int .u8 (.ofNat 0)), (.int .u8 (.ofNat 0)), (.int .u8 (.ofNat 0)), (.int .u8 (.ofNat 0)), (.int .u8 (.ofNat 0)), (.int .u8 (.ofNat 0)), (.int .u8 (.ofNat 0)), (.int .u8 (.ofNat 0)), (.int .u8 (.ofNat 0)), (.int .u8 (.ofNat 0)), (.int .u8 (.ofNat 0)), (.int .u8 (.ofNat 0)), (.int .u8 (.ofNat 0)), (.int .u8 (.ofNat 0)), (.int .u8 (.ofNat 0)), (.int .u8 (.ofNat 0)), (.int .u8 (.ofNat 0)), (.int .u8 (.ofNat 0)), (.int .u8 (.ofNat 0)), (.int .u8 (.ofNat 0)), (.int .u8 (.ofNat 0)), (.int .u8 (.ofNat 0)), (.int .u8 (.ofNat 0)), (.int .u8 (.ofNat 0)), (.int .u8 (.ofNat 0)), (.int .u8 (.ofNat 0)), (.int .u8 (.ofNat 0)), (.int .u8 (.ofNat 0)), (.int .u8 (.ofNat 0)), (.int .u8 (.ofNat 0)), (.int .u8 (.ofNat 0)), (.int .u8 (.ofNat 0)), (.int .u8 (.ofNat 0)), (.int .u8 (.ofNat 0)), (.int .u8 (.ofNat 0)), (.int .u8 (.ofNat 0)), (.int .u8 (.ofNat 0)), (.int .u8 (.ofNat 0)), (.int .u8 (.ofNat 0)), (.int .u8 (.ofNat 0)), (.int .u8 (.ofNat 0)), (.int .u8 (.ofNat 0)), (.int .u8 (.ofNat 0)), (.int .u8 (.ofNat 0)), (.int .u8 (.ofNat 0)), (.int .u8 (.ofNat 0)), (.int .u8 (.ofNat 0)), (.int .u8 (.ofNat 0)), (.int .u8 (.ofNat 0)), (.int .u8 (.ofNat 0)), (.int .u8 (.ofNat 0)), (.int .u8 (.ofNat 0)), (.int .u8 (.ofNat 0)), (.int .u8 (.ofNat 0)), (.int .u8 (.ofNat 0)), (.int .u8 (.ofNat 0)), (.int .u8 (.ofNat 0)), (.int .u8 (.ofNat 0)), (.int .u8 (.ofNat 0)), (.int .u8 (.ofNat 0)), (.int .u8 (.ofNat 0)), (.int .u8 (.ofNat 0)), (.int .u8 (.ofNat 0)), (.int .u8 (.ofNat 0)), (.int .u8 (.ofNat 0)), (.int .u8 (.ofNat 0)), (.int .u8 (.ofNat 0)), (.int .u8 (.ofNat 0)), (.int .u8 (.ofNat 0)), (.int .u8 (.ofNat 0)), (.int .u8 (.ofNat 0)), (.int .u8 (.ofNat 0)), (.int .u8 (.ofNat 0)), (.int .u8 (.ofNat 0)), (.int .u8 (.ofNat 0)), (.int .u8 (.ofNat 0)), (.int .u8 (.ofNat 0)), (.int .u8 (.ofNat 0)), (.int .u8 (.ofNat 0)), (.int .u8 (.ofNat 0)), (.int .u8 (.ofNat 0)), (.int .u8 (.ofNat 0)), (.int .u8 (.ofNat 0)), (.int .u8 (.ofNat 0)), (.int .u8 (.ofNat 0)), (.int .u8 (.ofNat 0)), (.int .u8 (.ofNat 0)), (.int .u8 (.ofNat 0)), (.int .u8 (.ofNat 0)), (.int .u8 (.ofNat 0)), (.int .u8 (.ofNat 0)), (.int .u8 (.ofNat 0)), (.int .u8 (.ofNat 0)), (.int .u8 (.ofNat 0)), (.int .u8 (.ofNat 0)), (.int .u8 (.ofNat 0)), (.int .u8 (.ofNat 0)), (.int .u8 (.ofNat 0)), (.int .u8 (.ofNat 0)), (.int .u8 (.ofNat 0)), (.int .u8 (.ofNat 0)), (.int .u8 (.ofNat 0)), (.int .u8 (.ofNat 0)), (.int .u8 (.ofNat 0)), (.int .u8 (.ofNat 0)), (.int .u8 (.ofNat 0)), (.int .u8 (.ofNat 0)), (.int .u8 (.ofNat 0)), (.int .u8 (.ofNat 0)), (.int .u8 (.ofNat 0)), (.int .u8 (.ofNat 0)), (.int .u8 (.ofNat 0)), (.int .u8 (.ofNat 0)), (.int .u8 (.ofNat 0)), (.int .u8 (.ofNat 0)), (.int .u8 (.ofNat 0)), (.int .u8 (.ofNat 0)), (.int .u8 (.ofNat 0)), (.int .u8 (.ofNat 0)), (.int .u8 (.ofNat 0)), (.int .u8 (.ofNat 0)), (.int .u8 (.ofNat 0)), (.int .u8 (.ofNat 0)), (.int .u8 (.ofNat 0)), (.int .u8 (.ofNat 0)), (.int .u8 (.ofNat 0)), (.int .u8 (.ofNat 0)), (.int .u8 (.ofNat 0)), (.int .u8 (.ofNat 0)), (.int .u8 (.ofNat 0)), (.int .u8 (.ofNat 0)), (.int .u8 (.ofNat 0)), (.int .u8 (.ofNat 0)), (.int .u8 (.ofNat 0)), (.int .u8 (.ofNat 0)), (.int .u8 (.ofNat 0)), (.int .u8 (.ofNat 0)), (.int .u8 (.ofNat 0)), (.int .u8 (.ofNat 0)), (.int .u8 (.ofNat 0)), (.int .u8 (.ofNat 0)), (.int .u8 (.ofNat 0)), (.int .u8 (.ofNat 0)), (.int .u8 (.ofNat 0)), (.int .u8 (.ofNat 0)), (.int .u8 (.ofNat 0)), (.int .u8 (.ofNat 0)), (.int .u8 (.ofNat 0)), (.int .u8 (.ofNat 0)), (.int .u8 (.ofNat 0)), (.int .u8 (.ofNat 0)), (.int .u8 (.ofNat 0)), (.int .u8 (.ofNat 0)), (.int .u8 (.ofNat 0)), (.int .u8 (.ofNat 0)), (.int .u8 (.ofNat 0)), (.int .u8 (.ofNat 0)), (.int .u8 (.ofNat 0)), (.int .u8 (.ofNat 0)), (.int .u8 (.ofNat 0)), (.int .u8 (.ofNat 0)), (.int .u8 (.ofNat 0)), (.int .u8 (.ofNat 0)), (.int .u8 (.ofNat 0)), (.int .u8 (.ofNat 0)), (.int .u8 (.ofNat 0)), (.int .u8 (.ofNat 0)), (.int .u8 (.ofNat 0)), (.int .u8 (.ofNat 0)), (.int .u8 (.ofNat 0)), (.int .u8 (.ofNat 0)), (.int .u8 (.ofNat 0)), (.int .u8 (.ofNat 0)), (.int .u8 (.ofNat 0)), (.int .u8 (.ofNat 0)), (.int .u8 (.ofNat 0)), (.int .u8 (.ofNat 0)), (.int .u8 (.ofNat 0)), (.int .u8 (.ofNat 0)), (.int .u8 (.ofNat 0)), (.int .u8 (.ofNat 0)), (.int .u8 (.ofNat 0)), (.int .u8 (.ofNat 0)), (.int .u8 (.ofNat 0)), (.int .u8 (.ofNat 0)), (.int .u8 (.ofNat 0)), (.int .u8 (.ofNat 0)), (.int .u8 (.ofNat 0)), (.int .u8 (.ofNat 0)), (.int .u8 (.ofNat 0)), (.int .u8 (.ofNat 0)), (.int .u8 (.ofNat 0)), (.int .u8 (.ofNat 0)), (.int .u8 (.ofNat 0)), (.int .u8 (.ofNat 0)), (.int .u8 (.ofNat 0)), (.int .u8 (.ofNat 0)), (.int .u8 (.ofNat 0)), (.int .u8 (.ofNat 0)), (.int .u8 (.ofNat 0)), (.int .u8 (.ofNat 0)), (.int .u8 (.ofNat 0)), (.int .u8 (.ofNat 0)), (.int .u8 (.ofNat 0)), (.int .u8 (.ofNat 0)), (.int .u8 (.ofNat 0)), (.int .u8 (.ofNat 0)), (.int .u8 (.ofNat 0)), (.int .u8 (.ofNat 0)), (.int .u8 (.ofNat 0)), (.int .u8 (.ofNat 0)), (.int .u8 (.ofNat 0)), (.int .u8 (.ofNat 0)), (.int .u8 (.ofNat 0)), (.int .u8 (.ofNat 0)), (.int .u8 (.ofNat 0)), (.int .u8 (.ofNat 0)), (.int .u8 (.ofNat 0)), (.int .u8 (.ofNat 0)), (.int .u8 (.ofNat 0)), (.int .u8 (.ofNat 0)), (.int .u8 (.ofNat 0)), (.int .u8 (.ofNat 0)), (.int .u8 (.ofNat 0)), (.int .u8 (.ofNat 0)), (.int .u8 (.ofNat 0)), (.int .u8 (.ofNat 0)), (.int .u8 (.ofNat 0)), (.int .u8 (.ofNat 0)), (.int .u8 (.ofNat 0)), (.int .u8 (.ofNat 0)), (.int .u8 (.ofNat 0)), (.int .u8 (.ofNat 0)), (.int .u8 (.ofNat 0)), (.int .u8 (.ofNat 0)), (.int .u8 (.ofNat 0)), (.int .u8 (.ofNat 0)), (.int .u8 (.ofNat 0)), (.int .u8 (.ofNat 0)), (.int .u8 (.ofNat 0)), (.int .u8 (.ofNat 0)), (.int .u8 (.ofNat 0)), (.int .u8 (.ofNat 0)), (.int .u8 (.ofNat 0)), (.int .u8 (.ofNat 0)), (.int .u8 (.ofNat 0)), (.int .u8 (.ofNat 0)), (.int .u8 (.ofNat 0)), (.int .u8 (.ofNat 0)), (.int .u8 (.ofNat 0)), (.int .u8 (.ofNat 0)), (.int .u8 (.ofNat 0)), (.int .u8 (.ofNat 0)), (.int .u8 (.ofNat 0)), (.int .u8 (.ofNat 0)), (.int .u8 (.ofNat 0)), (.int .u8 (.ofNat 0)), (.int .u8 (.ofNat 0)), (.int .u8 (.ofNat 0)), (.int .u8 (.ofNat 0)), (.int .u8 (.ofNat 0)), (.int .u8 (.ofNat 0)), (.int .u8 (.ofNat 0)), (.int .u8 (.ofNat 0)), (.int .u8 (.ofNat 0)), (.int .u8 (.ofNat 0)), (.int .u8 (.ofNat 0)), (.int .u8 (.ofNat 0)), (.int .u8 (.ofNat 0)), (.int .u8 (.ofNat 0)), (.int .u8 (.ofNat 0)), (.int .u8 (.ofNat 0)), (.int .u8 (.ofNat 0)), (.int .u8 (.ofNat 0)), (.int .u8 (.ofNat 0)), (.int .u8 (.ofNat 0)), (.int .u8 (.ofNat 0)), (.int .u8 (.ofNat 0)), (.int .u8 (.ofNat 0)), (.int .u8 (.ofNat 0)), (.int .u8 (.ofNat 0)), (.int .u8 (.ofNat 0)), (.int .u8 (.ofNat 0)), (.int .u8 (.ofNat 0)), (.int .u8 (.ofNat 0)), (.int .u8 (.ofNat 0)), (.int .u8 (.ofNat 0)), (.int .u8 (.ofNat 0)), (.int .u8 (.ofNat 0)), (.int .u8 (.ofNat 0)), (.int .u8 (.ofNat 0)), (.int .u8 (.ofNat 0)), (.int .u8 (.ofNat 0)), (.int .u8 (.ofNat 0)), (.int .u8 (.ofNat 0)), (.int .u8 (.ofNat 0)), (.int .u8 (.ofNat 0)), (.int .u8 (.ofNat 0)), (.int .u8 (.ofNat 0)), (.int .u8 (.ofNat 0)), (.int .u8 (.ofNat 0)), (.int .u8 (.ofNat 0)), (.int .u8 (.ofNat 0)), (.int .u8 (.ofNat 0)), (.int .u8 (.ofNat 0)), (.int .u8 (.ofNat 0)), (.int .u8 (.ofNat 0)), (.int .u8 (.ofNat 0)), (.int .u8 (.ofNat 0)), (.int .u8 (.ofNat 0)), (.int .u8 (.ofNat 0)), (.int .u8 (.ofNat 0)), (.int .u8 (.ofNat 0)), (.int .u8 (.ofNat 0)), (.int .u8 (.ofNat 0)), (.int .u8 (.ofNat 0)), (.int .u8 (.ofNat 0)), (.int .u8 (.ofNat 0)), (.int .u8 (.ofNat 0)), (.int .u8 (.ofNat 0)), (.int .u8 (.ofNat 0)), (.int .u8 (.ofNat 0)), (.int .u8 (.ofNat 0)), (.int .u8 (.ofNat 0)), (.int .u8 (.ofNat 0)), (.int .u8 (.ofNat 0)), (.int .u8 (.ofNat 0)), (.int .u8 (.ofNat 0)), (.int .u8 (.ofNat 0)), (.int .u8 (.ofNat 0)), (.int .u8 (.ofNat 0)), (.int .u8 (.ofNat 0)), (.int .u8 (.ofNat 0)), (.int .u8 (.ofNat 0)), (.int .u8 (.ofNat 0)), (.int .u8 (.ofNat 0)), (.int .u8 (.ofNat 0)), (.int .u8 (.ofNat 0)), (.int .u8 (.ofNat 0)), (.int .u8 (.ofNat 0)), (.int .u8 (.ofNat 0)), (.int .u8 (.ofNat 0)), (.int .u8 (.ofNat 0)), (.int .u8 (.ofNat 0)), (.int .u8 (.ofNat 0)), (.int .u8 (.ofNat 0)), (.int .u8 (.ofNat 0)), (.int .u8 (.ofNat 0)), (.int .u8 (.ofNat 0)), (.int .u8 (.ofNat 0)), (.int .u8 (.ofNat 0)), (.int .u8 (.ofNat 0)), (.int .u8 (.ofNat 0)), (.int .u8 (.ofNat 0)), (.int .u8 (.ofNat 0)), (.int .u8 (.ofNat 0)), (.int .u8 (.ofNat 0)), (.int .u8 (.ofNat 0)), (.int .u8 (.ofNat 0)), (.int .u8 (.ofNat 0)), (.int .u8 (.ofNat 0)), (.int .u8 (.ofNat 0)), (.int .u8 (.ofNat 0)), (.int .u8 (.ofNat 0)), (.int .u8 (.ofNat 0)), (.int .u8 (.ofNat 0)), (.int .u8 (.ofNat 0)), (.int .u8 (.ofNat 0)), (.int .u8 (.ofNat 0)), (.int .u8 (.ofNat 0)), (.int .u8 (.ofNat 0)), (.int .u8 (.ofNat 0)), (.int .u8 (.ofNat 0)), (.int .u8 (.ofNat 0)), (.int .u8 (.ofNat 0)), (.int .u8 (.ofNat 0)), (.int .u8 (.ofNat 0)), (.int .u8 (.ofNat 0)), (.int .u8 (.ofNat 0)), (.int .u8 (.ofNat 0)), (.int .u8 (.ofNat 0)), (.int .u8 (.ofNat 0)), (.int .u8 (.ofNat 0)), (.int .u8 (.ofNat 0)), (.int .u8 (.ofNat 0)), (.int .u8 (.ofNat 0)), (.int .u8 (.ofNat 0)), (.int .u8 (.ofNat 0)), (.int .u8 (.ofNat 0)), (.int .u8 (.ofNat 0)), (.int .u8 (.ofNat 0)), (.int .u8 (.ofNat 0)), (.int .u8 (.ofNat 0)), (.int .u8 (.ofNat 0)), (.int .u8 (.ofNat 0)), (.int .u8 (.ofNat 0)), (.int .u8 (.ofNat 0)), (.int .u8 (.ofNat 0)), (.int .u8 (.ofNat 0)), (.int .u8 (.ofNat 0)), (.int .u8 (.ofNat 0)), (.int .u8 (.ofNat 0)), (.int .u8 (.ofNat 0)), (.int .u8 (.ofNat 0)), (.int .u8 (.ofNat 0)), (.int .u8 (.ofNat 0)), (.int .u8 (.ofNat 0)), (.int .u8 (.ofNat 0)), (.int .u8 (.ofNat 0)), (.int .u8 (.ofNat 0)), (.int .u8 (.ofNat 0)), (.int .u8 (.ofNat 0)), (.int .u8 (.ofNat 0)), (.int .u8 (.ofNat 0)), (.int .u8 (.ofNat 0)), (.int .u8 (.ofNat 0)), (.int .u8 (.ofNat 0)), (.int .u8 (.ofNat 0)), (.int .u8 (.ofNat 0)), (.int .u8 (.ofNat 0)), (.int .u8 (.ofNat 0)), (.int .u8 (.ofNat 0)), (.int .u8 (.ofNat 0)), (.int .u8 (.ofNat 0)), (.int .u8 (.ofNat 0)), (.int .u8 (.ofNat 0)), (.int .u8 (.ofNat 0)), (.int .u8 (.ofNat 0)), (.int .u8 (.ofNat 0)), (.int .u8 (.ofNat 0)), (.int .u8 (.ofNat 0)), (.int .u8 (.ofNat 0)), (.int .u8 (.ofNat 0)), (.int .u8 (.ofNat 0)), (.int .u8 (.ofNat 0)), (.int .u8 (.ofNat 0)), (.int .u8 (.ofNat 0)), (.int .u8 (.ofNat 0)), (.int .u8 (.ofNat 0)), (.int .u8 (.ofNat 0)), (.int .u8 (.ofNat 0)), (.int .u8 (.ofNat 0)), (.int .u8 (.ofNat 0)), (.int .u8 (.ofNat 0)), (.int .u8 (.ofNat 0)), (.int .u8 (.ofNat 0)), (.int .u8 (.ofNat 0)), (.int .u8 (.ofNat 0)), (.int .u8 (.ofNat 0)), (.int .u8 (.ofNat 0)), (.int .u8 (.ofNat 0)), (.int .u8 (.ofNat 0)), (.int .u8 (.ofNat 0)), (.int .u8 (.ofNat 0)), (.int .u8 (.ofNat 0)), (.int .u8 (.ofNat 0)), (.int .u8 (.ofNat 0)), (.int .u8 (.ofNat 0)), (.int .u8 (.ofNat 0)), (.int .u8 (.ofNat 0)), (.int .u8 (.ofNat 0)), (.int .u8 (.ofNat 0)), (.int .u8 (.ofNat 0)), (.int .u8 (.ofNat 0)), (.int .u8 (.ofNat 0)), (.int .u8 (.ofNat 0)), (.int .u8 (.ofNat 0)), (.int .u8 (.ofNat 0)), (.int .u8 (.ofNat 0)), (.int .u8 (.ofNat 0)), (.int .u8 (.ofNat 0)), (.int .u8 (.ofNat 0)), (.int .u8 (.ofNat 0)), (.int .u8 (.ofNat 0)), (.int .u8 (.ofNat 0)), (.int .u8 (.ofNat 0)), (.int .u8 (.ofNat 0)), (.int .u8 (.ofNat 0)), (.int .u8 (.ofNat 0)), (.int .u8 (.ofNat 0)), (.int .u8 (.ofNat 0)), (.int .u8 (.ofNat 0)), (.int .u8 (.ofNat 0)), (.int .u8 (.ofNat 0)), (.int .u8 (.ofNat 0)), (.int .u8 (.ofNat 0)), (.int .u8 (.ofNat 0)), (.int .u8 (.ofNat 0)), (.int .u8 (.ofNat 0)), (.int .u8 (.ofNat 0)), (.int .u8 (.ofNat 0)), (.int .u8 (.ofNat 0)), (.int .u8 (.ofNat 0)), (.int .u8 (.ofNat 0)), (.int .u8 (.ofNat 0)), (.int .u8 (.ofNat 0)), (.int .u8 (.ofNat 0)), (.int .u8 (.ofNat 0)), (.int .u8 (.ofNat 0)), (.int .u8 (.ofNat 0)), (.int .u8 (.ofNat 0)), (.int .u8 (.ofNat 0)), (.int .u8 (.ofNat 0)), (.int .u8 (.ofNat 0)), (.int .u8 (.ofNat 0)), (.int .u8 (.ofNat 0)), (.int .u8 (.ofNat 0)), (.int .u8 (.ofNat 0)), (.int .u8 (.ofNat 0)), (.int .u8 (.ofNat 0)), (.int .u8 (.ofNat 0)), (.int .u8 (.ofNat 0)), (.int .u8 (.ofNat 0)), (.int .u8 (.ofNat 0)), (.int .u8 (.ofNat 0)), (.int .u8 (.ofNat 0)), (.int .u8 (.ofNat 0)), (.int .u8 (.ofNat 0)), (.int .u8 (.ofNat 0)), (.int .u8 (.ofNat 0)), (.int .u8 (.ofNat 0)), (.int .u8 (.ofNat 0)), (.int .u8 (.ofNat 0)), (.int .u8 (.ofNat 0)), (.int .u8 (.ofNat 0)), (.int .u8 (.ofNat 0)), (.int .u8 (.ofNat 0)), (.int .u8 (.ofNat 0)), (.int .u8 (.ofNat 0)), (.int .u8 (.ofNat 0)), (.int .u8 (.ofNat 0)), (.int .u8 (.ofNat 0)), (.int .u8 (.ofNat 0)), (.int .u8 (.ofNat 0)), (.int .u8 (.ofNat 0)), (.int .u8 (.ofNat 0)), (.int .u8 (.ofNat 0)), (.int .u8 (.ofNat 0)), (.int .u8 (.ofNat 0)), (.int .u8 (.ofNat 0)), (.int .u8 (.ofNat 0)), (.int .u8 (.ofNat 0)), (.int .u8 (.ofNat 0)), (.int .u8 (.ofNat 0)), (.int .u8 (.ofNat 0)), (.int .u8 (.ofNat 0)), (.int .u8 (.ofNat 0)), (.int .u8 (.ofNat 0)), (.int .u8 (.ofNat 0)), (.int .u8 (.ofNat 0)), (.int .u8 (.ofNat 0)), (.int .u8 (.ofNat 0)), (.int .u8 (.ofNat 0)), (.int .u8 (.ofNat 0)), (.int .u8 (.ofNat 0)), (.int .u8 (.ofNat 0)), (.int .u8 (.ofNat 0)), (.int .u8 (.ofNat 0)), (.int .u8 (.ofNat 0)), (.int .u8 (.ofNat 0)), (.int .u8 (.ofNat 0)), (.int .u8 (.ofNat 0)), (.int .u8 (.ofNat 0)), (.int .u8 (.ofNat 0)), (.int .u8 (.ofNat 0)), (.int .u8 (.ofNat 0)), (.int .u8 (.ofNat 0)), (.int .u8 (.ofNat 0)), (.int .u8 (.ofNat 0)), (.int .u8 (.ofNat 0)), (.int .u8 (.ofNat 0)), (.int .u8 (.ofNat 0)), (.int .u8 (.ofNat 0)), (.int .u8 (.ofNat 0)), (.int .u8 (.ofNat 0)), (.int .u8 (.ofNat 0)), (.int .u8 (.ofNat 0)), (.int .u8 (.ofNat 0)), (.int .u8 (.ofNat 0)), (.int .u8 (.ofNat 0)), (.int .u8 (.ofNat 0)), (.int .u8 (.ofNat 0)), (.int .u8 (.ofNat 0)), (.int .u8 (.ofNat 0)), (.int .u8 (.ofNat 0)), (.int .u8 (.ofNat 0)), (.int .u8 (.ofNat 0)), (.int .u8 (.ofNat 0)), (.int .u8 (.ofNat 0)), (.int .u8 (.ofNat 0)), (.int .u8 (.ofNat 0)), (.int .u8 (.ofNat 0)), (.int .u8 (.ofNat 0)), (.int .u8 (.ofNat 0)), (.int .u8 (.ofNat 0)), (.int .u8 (.ofNat 0)), (.int .u8 (.ofNat 0)), (.int .u8 (.ofNat 0)), (.int .u8 (.ofNat 0)), (.int .u8 (.ofNat 0)), (.int .u8 (.ofNat 0)), (.int .u8 (.ofNat 0)), (.int .u8 (.ofNat 0)), (.int .u8 (.ofNat 0)), (.int .u8 (.ofNat 0)), (.int .u8 (.ofNat 0)), (.int .u8 (.ofNat 0)), (.int .u8 (.ofNat 0)), (.int .u8 (.ofNat 0)), (.int .u8 (.ofNat 0)), (.int .u8 (.ofNat 0)), (.int .u8 (.ofNat 0)), (.int .u8 (.ofNat 0)), (.int .u8 (.ofNat 0)), (.int .u8 (.ofNat 0)), (.int .u8 (.ofNat 0)), (.int .u8 (.ofNat 0)), (.int .u8 (.ofNat 0)), (.int .u8 (.ofNat 0)), (.int .u8 (.ofNat 0)), (.int .u8 (.ofNat 0)), (.int .u8 (.ofNat 0)), (.int .u8 (.ofNat 0)), (.int .u8 (.ofNat 0)), (.int .u8 (.ofNat 0)), (.int .u8 (.ofNat 0)), (.int .u8 (.ofNat 0)), (.int .u8 (.ofNat 0)), (.int .u8 (.ofNat 0)), (.int .u8 (.ofNat 0)), (.int .u8 (.ofNat 0)), (.int .u8 (.ofNat 0)), (.int .u8 (.ofNat 0)), (.int .u8 (.ofNat 0)), (.int .u8 (.ofNat 0)), (.int .u8 (.ofNat 0)), (.int .u8 (.ofNat 0)), (.int .u8 (.ofNat 0)), (.int .u8 (.ofNat 0)), (.int .u8 (.ofNat 0)), (.int .u8 (.ofNat 0)), (.int .u8 (.ofNat 0)), (.int .u8 (.ofNat 0)), (.int .u8 (.ofNat 0)), (.int .u8 (.ofNat 0)), (.int .u8 (.ofNat 0)), (.int .u8 (.ofNat 0)), (.int .u8 (.ofNat 0)), (.int .u8 (.ofNat 0)), (.int .u8 (.ofNat 0)), (.int .u8 (.ofNat 0)), (.int .u8 (.ofNat 0)), (.int .u8 (.ofNat 0)), (.int .u8 (.ofNat 0)), (.int .u8 (.ofNat 0)), (.int .u8 (.ofNat 0)), (.int .u8 (.ofNat 0)), (.int .u8 (.ofNat 0)), (.int .u8 (.ofNat 0)), (.int .u8 (.ofNat 0)), (.int .u8 (.ofNat 0)), (.int .u8 (.ofNat 0)), (.int .u8 (.ofNat 0)), (.int .u8 (.ofNat 0)), (.int .u8 (.ofNat 0)), (.int .u8 (.ofNat 0)), (.int .u8 (.ofNat 0)), (.int .u8 (.ofNat 0)), (.int .u8 (.ofNat 0)), (.int .u8 (.ofNat 0)), (.int .u8 (.ofNat 0)), (.int .u8 (.ofNat 0)), (.int .u8 (.ofNat 0)), (.int .u8 (.ofNat 0)), (.int .u8 (.ofNat 0)), (.int .u8 (.ofNat 0)), (.int .u8 (.ofNat 0)), (.int .u8 (.ofNat 0)), (.int .u8 (.ofNat 0)), (.int .u8 (.ofNat 0)), (.int .u8 (.ofNat 0)), (.int .u8 (.ofNat 0)), (.int .u8 (.ofNat 0)), (.int .u8 (.ofNat 0)), (.int .u8 (.ofNat 0)), (.int .u8 (.ofNat 0)), (.int .u8 (.ofNat 0)), (.int .u8 (.ofNat 0)), (.int .u8 (.ofNat 0)), (.int .u8 (.ofNat 0)), (.int .u8 (.ofNat 0)), (.int .u8 (.ofNat 0)), (.int .u8 (.ofNat 0)), (.int .u8 (.ofNat 0)), (.int .u8 (.ofNat 0)), (.int .u8 (.ofNat 0)), (.int .u8 (.ofNat 0)), (.int .u8 (.ofNat 0)), (.int .u8 (.ofNat 0)), (.int .u8 (.ofNat 0)), (.int .u8 (.ofNat 0)), (.int .u8 (.ofNat 0)), (.int .u8 (.ofNat 0)), (.int .u8 (.ofNat 0)), (.int .u8 (.ofNat 0)), (.int .u8 (.ofNat 0)), (.int .u8 (.ofNat 0)), (.int .u8 (.ofNat 0)), (.int .u8 (.ofNat 0)), (.int .u8 (.ofNat 0)), (.int .u8 (.ofNat 0)), (.int .u8 (.ofNat 0)), (.int .u8 (.ofNat 0)), (.int .u8 (.ofNat 0)), (.int .u8 (.ofNat 0)), (.int .u8 (.ofNat 0)), (.int .u8 (.ofNat 0)), (.int .u8 (.ofNat 0)), (.int .u8 (.ofNat 0)), (.int .u8 (.ofNat 0)), (.int .u8 (.ofNat 0)), (.int .u8 (.ofNat 0)), (.int .u8 (.ofNat 0)), (.int .u8 (.ofNat 0)), (.int .u8 (.ofNat 0)), (.int .u8 (.ofNat 0)), (.int .u8 (.ofNat 0)), (.int .u8 (.ofNat 0)), (.int .u8 (.ofNat 0)), (.int .u8 (.ofNat 0)), (.int .u8 (.ofNat 0)), (.int .u8 (.ofNat 0)), (.int .u8 (.ofNat 0)), (.int .u8 (.ofNat 0)), (.int .u8 (.ofNat 0)), (.int .u8 (.ofNat 0)), (.int .u8 (.ofNat 0)), (.int .u8 (.ofNat 0)), (.int .u8 (.ofNat 0)), (.int .u8 (.ofNat 0)), (.int .u8 (.ofNat 0)), (.int .u8 (.ofNat 0)), (.int .u8 (.ofNat 0)), (.int .u8 (.ofNat 0)), (.int .u8 (.ofNat 0)), (.int .u8 (.ofNat 0)), (.int .u8 (.ofNat 0)), (.int .u8 (.ofNat 0)), (.int .u8 (.ofNat 0)), (.int .u8 (.ofNat 0)), (.int .u8 (.ofNat 0)), (.int .u8 (.ofNat 0)), (.int .u8 (.ofNat 0)), (.int .u8 (.ofNat 0)), (.int .u8 (.ofNat 0)), (.int .u8 (.ofNat 0)), (.int .u8 (.ofNat 0)), (.int .u8 (.ofNat 0)), (.int .u8 (.ofNat 0)), (.int .u8 (.ofNat 0)), (.int .u8 (.ofNat 0)), (.int .u8 (.ofNat 0)), (.int .u8 (.ofNat 0)), (.int .u8 (.ofNat 0)), (.int .u8 (.ofNat 0)), (.int .u8 (.ofNat 0)), (.int .u8 (.ofNat 0)), (.int .u8 (.ofNat 0)), (.int .u8 (.ofNat 0)), (.int .u8 (.ofNat 0)), (.int .u8 (.ofNat 0)), (.int .u8 (.ofNat 0)), (.int .u8 (.ofNat 0)), (.int .u8 (.ofNat 0)), (.int .u8 (.ofNat 0)), (.int .u8 (.ofNat 0)), (.int .u8 (.ofNat 0)), (.int .u8 (.ofNat 0)), (.int .u8 (.ofNat 0)), (.int .u8 (.ofNat 0)), (.int .u8 (.ofNat 0)), (.int .u8 (.ofNat 0)), (.int .u8 (.ofNat 0)), (kI 0), (kI 0), (.bool false), (.bool false)])
 slC (vS t0) none (some (vI t3)) fun vt127 => asS vt127 fun t127 =>
 cal D 112 [t23, (vS t127)] h7 fun t128 h8 =>
 asB t128 fun t128a =>
 let t129 := !t128a
 br t129 (
 let t131 := (AV.iface 94 (vI (Int.ofNat 2)))
 some (.ret (.tup [((.flt .f64 0) : AV), (vI t3), t131]) h8, .no)) (
 cal D 113 [t23, ((.ptr p7 0) : AV)] h8 fun t133 h9 =>
 extC t133 0 fun vt134 => asI .u64 vt134 fun t134 =>
 extC t133 1 fun vt135 => asB vt135 fun t135 =>
 obQ (evP (.xt .ffrom [(.c (AV.int .u64 t134))]) .leaf) fun t137 =>
 br t135 (
 let t139 := (AV.iface 94 (vI (Int.ofNat 1)))
 S99_1 D m t137 t3 t139 h9) (
 S99_1 D m t137 t3 t4 h9))
def e99_2 (k t0 t3 t4 t8 t9 t11 t16 h) := kN k [(p0, (vS t0)), (p3, (vI t3)), (p4, t4), (p8, (AV.int .u64 t8)), (p9, (vI t9)), (p11, (vB t11)), (p16, (AV.int .u64 t16))] h
def S99_2 (D : CallD) (m : Nat) (t0 : LN) (t3 : Int) (t4 : AV) (t8 t9 : Int) (t11 : Bool) (t16 : Int) (h : HP) : Res2 :=
 cal D 117 [(AV.int .u64 t8), (vI t9), (AV.int .u64 t16)] h fun t103 h11 =>
 extC t103 0 fun t104 =>
 extC t103 1 fun t105 =>
 let t107 := !t11
 br t107 (
 some (.ret (.tup [t104, (vI t3), t105]) h11, .no)) (
 let t113 := wrQ .u64 (addQ t8 (Int.ofNat 1))
 cal D 117 [(AV.int .u64 t113), (vI t9), (AV.int .u64 t16)] h11 fun t116 h12 =>
 extC t116 0 fun t117 =>
 extC t116 1 fun t118 =>
 binC .eql t104 t117 fun vt121 => asB vt121 fun t121 =>
 br t121 (
 some (.ret (.tup [t104, (vI t3), t105]) h12, .no)) (
 S99_0 D m t0 t3 t4 h12))
def e99_3 (k t0 h) := kN k [(p0, (vS t0))] h
def S99_3 (D : CallD) (m : Nat) (t0 : LN) (h : HP) : Res2 :=
 cal D 105 [(vS t0)] h fun t28 h4 =>
 extC t28 0 fun t29 =>
 extC t28 1 fun vt30 => asI .i64 vt30 fun t30 =>
 extC t28 2 fun vt31 => asB vt31 fun t31 =>
 br t31 (
 some (.ret (.tup [t29, (vI t30), (.nili : AV)]) h4, .no)) (
 cal D 106 [(vS t0)] h4 fun t37 h5 =>
 extC t37 0 fun vt38 => asI .u64 vt38 fun t38 =>
 extC t37 1 fun vt39 => asI .i64 vt39 fun t39 =>
 extC t37 2 fun vt40 => asB vt40 fun t40 =>
 extC t37 3 fun vt41 => asB vt41 fun t41 =>
 extC t37 4 fun vt42 => asB vt42 fun t42 =>
 extC t37 5 fun vt43 => asI .i64 vt43 fun t43 =>
 extC t37 6 fun vt44 => asB vt44 fun t44 =>
 let t46 := !t44
 br t46 (
 let t48 := (AV.iface 94 (vI (Int.ofNat 2)))
 some (.ret (.tup [((.flt .f64 0) : AV), (vI t43), t48]) h5, .no)) (
 br t42 (
 slC (vS t0) none (some (vI t43)) fun vt53 => asS vt53 fun t53 =>
 cal D 107 [(vS t53), ((.ptr p7 0) : AV), (AV.int .u64 t38), (vI t39), (vB t40), (vB t41)] h5 fun t58 h6 =>
 extC t58 0 fun t59 =>
 extC t58 1 fun t60 =>
 some (.ret (.tup [t59, (vI t43), t60]) h6, .no)) (
 ldB ((.ptr p6 0) : AV) h5 fun t64 =>
 br t64 (
 cal D 114 [(vB t40)] h5 fun t66 h10 =>
 asI .u64 t66 fun t66a =>
 let t67 := shlF .u64 t66a 63
 let t69 := eqQ t38 (Int.ofNat 0)
 br t69 (
 obI .u64 (intBin .or .u64 t67 (Int.ofNat 0)) fun t71 =>
 obQ (evP (.xt .ffrom [(.c (AV.int .u64 t71))]) .leaf) fun t72 =>
 some (.ret (.tup [t72, (vI t43), (.nili : AV)]) h10, .no)) (
 let t75 := ltQ (Int.ofNat 310) t39
 br t75 (
 obI .u64 (intBin .or .u64 t67 (Int.ofNat 9218868437227405312)) fun t77 =>
 obQ (evP (.xt .ffrom [(.c (AV.int .u64 t77))]) .leaf) fun t78 =>
 let t80 := (AV.iface 94 (vI (Int.ofNat 1)))
 some (.ret (.tup [t78, (vI t43), t80]) h10, .no)) (
 let t82 := ltQ t39 (Int.negSucc 344)
 br t82 (
 obI .u64 (intBin .or .u64 t67 (Int.ofNat 0)) fun t84 =>
 obQ (evP (.xt .ffrom [(.c (AV.int .u64 t84))]) .leaf) fun t85 =>
 some (.ret (.tup [t85, (vI t43), (.nili : AV)]) h10, .no)) (
 let t88 := !t41
 br t88 (
 cal D 116 [(AV.int .u64 t38), (vI t39), (vB t40)] h10 fun t93 h13 =>
 extC t93 0 fun t94 =>
 extC t93 1 fun vt95 => asB vt95 fun t95 =>
 br t95 (
 some (.ret (.tup [t94, (vI t43), (.nili : AV)]) h13, .no)) (
 S99_2 D m t0 t43 (.nili : AV) t38 t39 t41 t67 h13)) (
 S99_2 D m t0 t43 (.nili : AV) t38 t39 t41 t67 h10))))) (
 S99_0 D m t0 t43 (.nili : AV) h5))))
def S99 : SFn := fun D m args h u => nou u <| popS args fun t0 args => endA args (S99_3 D m t0 h)
theorem T99_1 (hE : FX x99 D m E) : S99_1 D m = e99_1 (E c99_1 []) := by unfold S99_1; rw [hE c99_1]; kernel_rfl
theorem T99_0 (hE : FX x99 D m E) : S99_0 D m = e99_0 (E c99_0 []) := by unfold S99_0; rw [T99_1 hE, hE c99_0]; kernel_rfl
theorem T99_2 (hE : FX x99 D m E) : S99_2 D m = e99_2 (E c99_2 [.sj v99_0 c99_0]) := by unfold S99_2; rw [T99_0 hE, hE c99_2]; kernel_rfl
theorem T99_3 (hE : FX x99 D m E) : S99_3 D m = e99_3 (E c99_e []) := by unfold S99_3; rw [T99_2 hE, T99_0 hE, hE c99_e]; kernel_rfl
theorem X99 : XTie S99 x99 := X_of fun D m E hE args h u => by unfold S99; rw [T99_3 hE]; kernel_rfl
/- 100 -/
def c100_e : XC := (.sO [.mv p2 (ci 0) tI] (.seq (.seq (.oX [.mv p3 q0 tW, .bn p4 .eql q3 (.c (.int .u32 (.ofNat 0))) .b]) (.cond q4 (.seq (.oX [.mv p2 (ci 32) tI]) .ret) .skip)) (.sO [.mv p5 q0 tW, .mv p6 q0 tW, .P p7 (.un .neg q6) tW, .bn p8 .and q5 q7 tW, .bn p9 .mul q8 (.c (.int .u32 (.ofNat 125613361))) tW, .bn p10 .shr q9 (.c (.int .u64 (.ofNat 27))) tW, .P p11 (.iaddr (.arr 32 1) (.c (.ptr p8 0)) q10) .v, .ld p12 q11 tC, .P p13 (.conv (.ii .i64) q12) tI, .mv p2 q13 tI] (.s .ret))))
def x100 : XFn := ⟨[tW], false, [(.tmp p2)], c100_e⟩
def e100_0 (k t0 h) := kN k [(p0, (vW t0))] h
def S100_0 (D : CallD) (m : Nat) (t0 : Int) (h : HP) : Res2 :=
 binC .eql (vW t0) (vW (Int.ofNat 0)) fun vt4 => asB vt4 fun t4 =>
 br t4 (
 some (.ret (vI (Int.ofNat 32)) h, .no)) (
 obI .u32 (evP (.un .neg (.c (vW t0))) .leaf) fun t7 =>
 binC .and (vW t0) (vW t7) fun vt8 => asI .u32 vt8 fun t8 =>
 binC .mul (vW t8) (vW (Int.ofNat 125613361)) fun vt9 => asI .u32 vt9 fun t9 =>
 obI .u32 (shiftF .shr .u32 t9 (Int.ofNat 27)) fun t10 =>
 iarC 32 1 ((.ptr p8 0) : AV) (vW t10) fun t11 =>
 ldC t11 h fun t12 =>
 let t13 := wrapF .i64 t12
 some (.ret (vI t13) h, .no))
def S100 : SFn := fun D m args h u => nou u <| popI .u32 args fun t0 args => endA args (S100_0 D m t0 h)
theorem T100_0 (hE : FX x100 D m E) : S100_0 D m = e100_0 (E c100_e []) := by unfold S100_0; rw [hE c100_e]; kernel_rfl
theorem X100 : XTie S100 x100 := X_of fun D m E hE args h u => by unfold S100; rw [T100_0 hE]; kernel_rfl
/- 101 -/
def c101_e : XC := (.sO [.mv p2 (ci 0) tI] (.seq (.seq (.oX [.mv p3 q0 (.i .u64), .bn p4 .eql q3 (.c (.int .u64 (.ofNat 0))) .b]) (.cond q4 (.seq (.oX [.mv p2 (ci 64) tI]) .ret) .skip)) (.sO [.mv p5 q0 (.i .u64), .mv p6 q0 (.i .u64), .P p7 (.un .neg q6) (.i .u64), .bn p8 .and q5 q7 (.i .u64), .bn p9 .mul q8 (.c (.int .u64 (.ofNat 285870213051353865))) (.i .u64), .bn p10 .shr q9 (.c (.int .u64 (.ofNat 58))) (.i .u64), .P p11 (.iaddr (.arr 64 1) (.c (.ptr p9 0)) q10) .v, .ld p12 q11 tC, .P p13 (.conv (.ii .i64) q12) tI, .mv p2 q13 tI] (.s .ret))))
def x101 : XFn := ⟨[(.i .u64)], false, [(.tmp p2)], c101_e⟩
def e101_0 (k t0 h) := kN k [(p0, (AV.int .u64 t0))] h
def S101_0 (D : CallD) (m : Nat) (t0 : Int) (h : HP) : Res2 :=
 let t4 := eqQ t0 (Int.ofNat 0)
 br t4 (
 some (.ret (vI (Int.ofNat 64)) h, .no)) (
 let t7 := IntKind.wrap .u64 (0 - t0)
 obI .u64 (intBin .and .u64 t0 t7) fun t8 =>
 let t9 := wrQ .u64 (t8 * (Int.ofNat 285870213051353865))
 let t10 := shrF .u64 t9 58
 iarC 64 1 ((.ptr p9 0) : AV) (AV.int .u64 t10) fun t11 =>
 ldC t11 h fun t12 =>
 let t13 := wrapF .i64 t12
 some (.ret (vI t13) h, .no))
def S101 : SFn := fun D m args h u => nou u <| popI .u64 args fun t0 args => endA args (S101_0 D m t0 h)
theorem T101_0 (hE : FX x101 D m E) : S101_0 D m = e101_0 (E c101_e []) := by unfold S101_0; rw [hE c101_e]; kernel_rfl
theorem X101 : XTie S101 x101 := X_of fun D m E hE args h u => by unfold S101; rw [T101_0 hE]; kernel_rfl
/- 105 -/
def v105_0 : List Pos := []
def c105_0 : XC := (.sO [.mv p2 (.c (.flt .f64 0)) .v, .mv p3 (ci 0) tI, .mv p4 (cb false) .b] (.s .ret))
def v105_1 : List Pos := [p0]
def c105_1 : XC := (.seq (.seq (.oX [.mv p46 q0 .s, .cl p47 123 [q46, (.c (.str [110, 97, 110]))] tI, .bn p48 .eql q47 (ci 3) .b]) (.cond q48 (.seq (.oX [.cl p49 125 [] .v, .mv p2 q49 .v, .mv p3 (ci 3) tI, .mv p4 (cb true) .b]) .ret) .skip)) (.s (.exit 0)))
def v105_3 : List Pos := []
def c105_3 : XC := (.s (.exit 0))
def v105_4 : List Pos := [p5, p6, p7]
def c105_4 : XC := (.sO [.mv p35 q7 tI, .bn p36 .eql q35 (ci 3) .b, .mv p37 q36 .b, .ge p37 (XL.of [.G p37 false p38 (.mov q7) tI, .G p37 false p39 (.bin .eql q38 (ci 8)) .b, .P p40 (.pick q37 (cb true) q39) .b]) p40 .b] (.cond q40 (.sO [.mv p41 q5 tI, .cl p42 124 [q41] .v, .mv p43 q6 tI, .mv p44 q7 tI, .bn p45 .add q43 q44 tI, .mv p2 q42 .v, .mv p3 q45 tI, .mv p4 (cb true) .b] (.s .ret)) (.s .skip)))
def v105_2 : List Pos := [p0, p5, p6]
def c105_2 : XC := (.sj v105_3 (.sO [.mv p27 q0 .s, .cl p28 123 [q27, (.c (.str [105, 110, 102, 105, 110, 105, 116, 121]))] tI, .mv p7 q28 tI] (.sj v105_4 (.sO [.mv p29 q7 tI, .bn p30 .lss (ci 3) q29 .b, .mv p31 q30 .b, .ge p31 (XL.of [.G p31 true p32 (.mov q7) tI, .G p31 true p33 (.bin .lss q32 (ci 8)) .b, .P p34 (.pick q31 q33 (cb false)) .b]) p34 .b] (.cond q34 (.s (.oX [.mv p7 (ci 3) tI])) (.s .skip))) c105_4)) c105_3)
def v105_6 : List Pos := [p0, p5]
def c105_6 : XC := (.sO [.mv p6 (ci 1) tI] (.s (.oX [.mv p25 q0 .s, .P p26 (.slice .str q25 (some (ci 1)) none none) .s, .mv p0 q26 .s])))
def v105_5 : List Pos := [p0, p5]
def c105_5 : XC := (.sj v105_6 (.sO [.mv p22 q0 .s, .P p23 (.idxs q22 (ci 0)) tC, .bn p24 .eql q23 (.c (.int .u8 (.ofNat 45))) .b] (.cond q24 (.s (.oX [.mv p5 (.c (.int .i64 (.negSucc 0))) tI])) (.s .skip))) c105_6)
def v105_7 : List Pos := []
def c105_7 : XC := (.s (.exit 0))
def v105_10 : List Pos := [p0, p19]
def c105_10 : XC := (.cond q19 (.s (.exit 3)) (.s .skip))
def v105_9 : List Pos := [p0, p12]
def c105_9 : XC := (.sj v105_10 (.sO [.bn p20 .eql q12 (.c (.int .u8 (.ofNat 110))) .b, .mv p19 q20 .b] (.cond q19 (.s .skip) (.s (.oX [.bn p21 .eql q12 (.c (.int .u8 (.ofNat 78))) .b, .mv p19 q21 .b])))) c105_10)
def v105_11 : List Pos := [p0, p5, p6, p12, p16]
def c105_11 : XC := (.cond q16 (.s (.exit 2)) (.s .skip))
def v105_8 : List Pos := [p0, p5, p6, p12]
def c105_8 : XC := (.sj v105_9 (.sj v105_11 (.sO [.bn p17 .eql q12 (.c (.int .u8 (.ofNat 105))) .b, .mv p16 q17 .b] (.cond q16 (.s .skip) (.s (.oX [.bn p18 .eql q12 (.c (.int .u8 (.ofNat 73))) .b, .mv p16 q18 .b])))) c105_11) c105_9)
def v105_12 : List Pos := [p0, p5, p6, p12, p13]
def c105_12 : XC := (.cond q13 (.s (.exit 1)) (.s .skip))
def c105_e : XC := (.sO [.mv p2 (.c (.flt .f64 0)) .v, .mv p3 (ci 0) tI, .mv p4 (cb false) .b] (.seq (.seq (.oX [.mv p8 q0 .s, .P p9 (.lens q8) tI, .bn p10 .eql q9 (ci 0) .b]) (.cond q10 (.seq (.oX [.mv p2 (.c (.flt .f64 0)) .v, .mv p3 (ci 0) tI, .mv p4 (cb false) .b]) .ret) .skip)) (.sO [.mv p5 (ci 1) tI] (.sO [.mv p6 (ci 0) tI] (.sj v105_0 (.sO [.mv p11 q0 .s, .P p12 (.idxs q11 (ci 0)) tC] (.block 0 (.sj v105_1 (.block 3 (.sj v105_2 (.block 2 (.sj v105_5 (.block 1 (.sj v105_7 (.sj v105_8 (.sj v105_12 (.sO [.bn p14 .eql q12 (.c (.int .u8 (.ofNat 43))) .b, .mv p13 q14 .b] (.cond q13 (.s .skip) (.s (.oX [.bn p15 .eql q12 (.c (.int .u8 (.ofNat 45))) .b, .mv p13 q15 .b])))) c105_12) c105_8) c105_7)) c105_5)) c105_2)) c105_1))) c105_0)))))
def x105 : XFn := ⟨[.s], false, [(.tmp p2), (.tmp p3), (.tmp p4)], c105_e⟩
def e105_0 (k h) := kN k [] h
def S105_0 (D : CallD) (m : Nat) (h : HP) : Res2 :=
 some (.ret (.tup [((.flt .f64 0) : AV), (vI (Int.ofNat 0)), (vB false)]) h, .no)
def e105_1 (k t0 h) := kN k [(p0, (vS t0))] h
def S105_1 (D : CallD) (m : Nat) (t0 : LN) (h : HP) : Res2 :=
 cal D 123 [(vS t0), (vS ([110, 97, 110] : LN))] h fun t47 h14 =>
 asI .i64 t47 fun t47a =>
 let t48 := eqQ t47a (Int.ofNat 3)
 br t48 (
 cal D 125 [] h14 fun t49 h15 =>
 some (.ret (.tup [t49, (vI (Int.ofNat 3)), (vB true)]) h15, .no)) (
 S105_0 D m h14)
def e105_3 (k h) := kN k [] h
def S105_3 (D : CallD) (m : Nat) (h : HP) : Res2 :=
 S105_0 D m h
def e105_4 (k t5 t6 t7 h) := kN k [(p5, (vI t5)), (p6, (vI t6)), (p7, (vI t7))] h
def S105_4 (D : CallD) (m : Nat) (t5 t6 t7 : Int) (h : HP) : Res2 :=
 let t36 := eqQ t7 (Int.ofNat 3)
 obB (brV t36 (
 some (vB true)) (
 let t39 := eqQ t7 (Int.ofNat 8)
 some (vB t39))) fun t40 =>
 br t40 (
 cal D 124 [(vI t5)] h fun t42 h17 =>
 let t45 := wrQ .i64 (addQ t6 t7)
 some (.ret (.tup [t42, (vI t45), (vB true)]) h17, .no)) (
 S105_3 D m h)
def e105_2 (k t0 t5 t6 h) := kN k [(p0, (vS t0)), (p5, (vI t5)), (p6, (vI t6))] h
def S105_2 (D : CallD) (m : Nat) (t0 : LN) (t5 t6 : Int) (h : HP) : Res2 :=
 cal D 123 [(vS t0), (vS ([105, 110, 102, 105, 110, 105, 116, 121] : LN))] h fun t28 h16 =>
 asI .i64 t28 fun t28a =>
 let t30 := ltQ (Int.ofNat 3) t28a
 obB (brV t30 (
 let t33 := ltQ t28a (Int.ofNat 8)
 some (vB t33)) (
 some (vB false))) fun t34 =>
 br t34 (
 S105_4 D m t5 t6 (Int.ofNat 3) h16) (
 S105_4 D m t5 t6 t28a h16)
def e105_6 (k t0 t5 h) := kN k [(p0, (vS t0)), (p5, (vI t5))] h
def S105_6 (D : CallD) (m : Nat) (t0 : LN) (t5 : Int) (h : HP) : Res2 :=
 slC (vS t0) (some (vI (Int.ofNat 1))) none fun vt26 => asS vt26 fun t26 =>
 S105_2 D m t26 t5 (Int.ofNat 1) h
def e105_5 (k t0 t5 h) := kN k [(p0, (vS t0)), (p5, (vI t5))] h
def S105_5 (D : CallD) (m : Nat) (t0 : LN) (t5 : Int) (h : HP) : Res2 :=
 ixC (vS t0) (vI (Int.ofNat 0)) fun vt23 => asI .u8 vt23 fun t23 =>
 let t24 := eqQ t23 (Int.ofNat 45)
 br t24 (
 S105_6 D m t0 (Int.negSucc 0) h) (
 S105_6 D m t0 t5 h)
def e105_7 (k h) := kN k [] h
def S105_7 (D : CallD) (m : Nat) (h : HP) : Res2 :=
 S105_0 D m h
def e105_10 (k t0 t19 h) := kN k [(p0, (vS t0)), (p19, (vB t19))] h
def S105_10 (D : CallD) (m : Nat) (t0 : LN) (t19 : Bool) (h : HP) : Res2 :=
 br t19 (
 S105_1 D m t0 h) (
 S105_7 D m h)
def e105_9 (k t0 t12 h) := kN k [(p0, (vS t0)), (p12, (vC t12))] h
def S105_9 (D : CallD) (m : Nat) (t0 : LN) (t12 : Int) (h : HP) : Res2 :=
 let t20 := eqQ t12 (Int.ofNat 110)
 br t20 (
 S105_10 D m t0 t20 h) (
 let t21 := eqQ t12 (Int.ofNat 78)
 S105_10 D m t0 t21 h)
def e105_11 (k t0 t5 t6 t12 t16 h) := kN k [(p0, (vS t0)), (p5, (vI t5)), (p6, (vI t6)), (p12, (vC t12)), (p16, (vB t16))] h
def S105_11 (D : CallD) (m : Nat) (t0 : LN) (t5 t6 t12 : Int) (t16 : Bool) (h : HP) : Res2 :=
 br t16 (
 S105_2 D m t0 t5 t6 h) (
 S105_9 D m t0 t12 h)
def e105_8 (k t0 t5 t6 t12 h) := kN k [(p0, (vS t0)), (p5, (vI t5)), (p6, (vI t6)), (p12, (vC t12))] h
def S105_8 (D : CallD) (m : Nat) (t0 : LN) (t5 t6 t12 : Int) (h : HP) : Res2 :=
 let t17 := eqQ t12 (Int.ofNat 105)
 br t17 (
 S105_11 D m t0 t5 t6 t12 t17 h) (
 let t18 := eqQ t12 (Int.ofNat 73)
 S105_11 D m t0 t5 t6 t12 t18 h)
def e105_12 (k t0 t5 t6 t12 t13 h) := kN k [(p0, (vS t0)), (p5, (vI t5)), (p6, (vI t6)), (p12, (vC t12)), (p13, (vB t13))] h
def S105_12 (D : CallD) (m : Nat) (t0 : LN) (t5 t6 t12 : Int) (t13 : Bool) (h : HP) : Res2 :=
 br t13 (
 S105_5 D m t0 t5 h) (
 S105_8 D m t0 t5 t6 t12 h)
def e105_13 (k t0 h) := kN k [(p0, (vS t0))] h
def S105_13 (D : CallD) (m : Nat) (t0 : LN) (h : HP) : Res2 :=
 let t9 := Int.ofNat (lenL t0)
 let t10 := eqQ t9 (Int.ofNat 0)
 br t10 (
 some (.ret (.tup [((.flt .f64 0) : AV), (vI (Int.ofNat 0)), (vB false)]) h, .no)) (
 ixC (vS t0) (vI (Int.ofNat 0)) fun vt12 => asI .u8 vt12 fun t12 =>
 let t14 := eqQ t12 (Int.ofNat 43)
 br t14 (
 S105_12 D m t0 (Int.ofNat 1) (Int.ofNat 0) t12 t14 h) (
 let t15 := eqQ t12 (Int.ofNat 45)
 S105_12 D m t0 (Int.ofNat 1) (Int.ofNat 0) t12 t15 h))
def S105 : SFn := fun D m args h u => nou u <| popS args fun t0 args => endA args (S105_13 D m t0 h)
theorem T105_0 (hE : FX x105 D m E) : S105_0 D m = e105_0 (E c105_0 []) := by unfold S105_0; rw [hE c105_0]; kernel_rfl
theorem T105_1 (hE : FX x105 D m E) : S105_1 D m = e105_1 (E c105_1 [.blk 0, .sj v105_0 c105_0]) := by unfold S105_1; rw [T105_0 hE, hE c105_1]; kernel_rfl
theorem T105_3 (hE : FX x105 D m E) : S105_3 D m = e105_3 (E c105_3 [.blk 3, .sj v105_1 c105_1, .blk 0, .sj v105_0 c105_0]) := by unfold S105_3; rw [T105_0 hE, hE c105_3]; kernel_rfl
theorem T105_4 (hE : FX x105 D m E) : S105_4 D m = e105_4 (E c105_4 [.sj v105_3 c105_3, .blk 3, .sj v105_1 c105_1, .blk 0, .sj v105_0 c105_0]) := by unfold S105_4; rw [T105_3 hE, hE c105_4]; kernel_rfl
theorem T105_2 (hE : FX x105 D m E) : S105_2 D m = e105_2 (E c105_2 [.blk 3, .sj v105_1 c105_1, .blk 0, .sj v105_0 c105_0]) := by unfold S105_2; rw [T105_4 hE, hE c105_2]; kernel_rfl
theorem T105_6 (hE : FX x105 D m E) : S105_6 D m = e105_6 (E c105_6 [.blk 2, .sj v105_2 c105_2, .blk 3, .sj v105_1 c105_1, .blk 0, .sj v105_0 c105_0]) := by unfold S105_6; rw [T105_2 hE, hE c105_6]; kernel_rfl
theorem T105_5 (hE : FX x105 D m E) : S105_5 D m = e105_5 (E c105_5 [.blk 2, .sj v105_2 c105_2, .blk 3, .sj v105_1 c105_1, .blk 0, .sj v105_0 c105_0]) := by unfold S105_5; rw [T105_6 hE, hE c105_5]; kernel_rfl
theorem T105_7 (hE : FX x105 D m E) : S105_7 D m = e105_7 (E c105_7 [.blk 1, .sj v105_5 c105_5, .blk 2, .sj v105_2 c105_2, .blk 3, .sj v105_1 c105_1, .blk 0, .sj v105_0 c105_0]) := by unfold S105_7; rw [T105_0 hE, hE c105_7]; kernel_rfl
theorem T105_10 (hE : FX x105 D m E) : S105_10 D m = e105_10 (E c105_10 [.sj v105_7 c105_7, .blk 1, .sj v105_5 c105_5, .blk 2, .sj v105_2 c105_2, .blk 3, .sj v105_1 c105_1, .blk 0, .sj v105_0 c105_0]) := by unfold S105_10; rw [T105_1 hE, T105_7 hE, hE c105_10]; kernel_rfl
theorem T105_9 (hE : FX x105 D m E) : S105_9 D m = e105_9 (E c105_9 [.sj v105_7 c105_7, .blk 1, .sj v105_5 c105_5, .blk 2, .sj v105_2 c105_2, .blk 3, .sj v105_1 c105_1, .blk 0, .sj v105_0 c105_0]) := by unfold S105_9; rw [T105_10 hE, hE c105_9]; kernel_rfl
theorem T105_11 (hE : FX x105 D m E) : S105_11 D m = e105_11 (E c105_11 [.sj v105_9 c105_9, .sj v105_7 c105_7, .blk 1, .sj v105_5 c105_5, .blk 2, .sj v105_2 c105_2, .blk 3, .sj v105_1 c105_1, .blk 0, .sj v105_0 c105_0]) := by unfold S105_11; rw [T105_2 hE, T105_9 hE, hE c105_11]; kernel_rfl
theorem T105_8 (hE : FX x105 D m E) : S105_8 D m = e105_8 (E c105_8 [.sj v105_7 c105_7, .blk 1, .sj v105_5 c105_5, .blk 2, .sj v105_2 c105_2, .blk 3, .sj v105_1 c105_1, .blk 0, .sj v105_0 c105_0]) := by unfold S105_8; rw [T105_11 hE, hE c105_8]; kernel_rfl
theorem T105_12 (hE : FX x105 D m E) : S105_12 D m = e105_12 (E c105_12 [.sj v105_8 c105_8, .sj v105_7 c105_7, .blk 1, .sj v105_5 c105_5, .blk 2, .sj v105_2 c105_2, .blk 3, .sj v105_1 c105_1, .blk 0, .sj v105_0 c105_0]) := by unfold S105_12; rw [T105_5 hE, T105_8 hE, hE c105_12]; kernel_rfl
theorem T105_13 (hE : FX x105 D m E) : S105_13 D m = e105_13 (E c105_e []) := by unfold S105_13; rw [T105_12 hE, hE c105_e]; kernel_rfl
theorem X105 : XTie S105 x105 := X_of fun D m E hE args h u => by unfold S105; rw [T105_13 hE]; kernel_rfl
/- 106 -/
def v106_7 : List Pos := [p2, p3, p4, p5, p6, p7]
def c106_7 : XC := (.sO [.mv p8 (cb true) .b] (.s .ret))
def c106_9 : XC := (.cond q252 (.s .ret) (.s .skip))
def l106_8 : XL := (XL.of [])
def v106_6 : List Pos := [p0, p2, p3, p4, p5, p6, p7, p8, p9]
def c106_6 : XC := (.sj v106_7 (.opq false (XL.pre [.mv p245 q9 .b, .mv p246 q245 .b, .sp p246, .G p246 true p247 (.mov q0) .s, .G p246 true p248 (.mov q7) tI, .G p246 true p249 (.slice .str q247 none (some q248) none) .s, .o ⟨(some p250), (.call (.fn 74) [q249]), (some (p246, true)), []⟩ .b, .G p246 true p251 (.un .not q250) .b, .P p252 (.pick q246 q251 (cb false)) .b, .jn p246 [p2, p3, p4, p5, p6, p7, p8, p252]] l106_8) c106_9) c106_7)
def v106_5 : List Pos := [p0, p2, p3, p4, p5, p6, p7, p8, p9, p16, p17]
def c106_5 : XC := (.sj v106_6 (.sO [.mv p240 q2 (.i .u64), .bn p241 .neq q240 (.c (.int .u64 (.ofNat 0))) .b] (.cond q241 (.s (.oX [.mv p242 q17 tI, .mv p243 q16 tI, .bn p244 .sub q242 q243 tI, .mv p3 q244 tI])) (.s .skip))) c106_6)
def v106_12 : List Pos := [p0, p2, p3, p4, p5, p6, p7, p8, p9, p16, p17, p19, p20]
def c106_12 : XC := (.s (.oX [.mv p233 q17 tI, .mv p234 q20 tI, .mv p235 q19 tI, .bn p236 .mul q234 q235 tI, .bn p237 .add q233 q236 tI, .mv p17 q237 tI]))
def v106_14 : List Pos := [p0, p2, p3, p4, p5, p6, p7, p8, p9, p16, p17, p19, p20]
def c106_14 : XC := (.s (.oX [.mv p217 q7 tI, .bn p218 .add q217 (ci 1) tI, .mv p7 q218 tI]))
def v106_13 : List Pos := [p0, p2, p3, p4, p5, p6, p7, p8, p9, p16, p17, p19, p20]
def c106_13b : XC := (.seq (.seq (.oX [.mv p195 q7 tI, .mv p196 q0 .s, .P p197 (.lens q196) tI, .bn p198 .lss q195 q197 .b, .mv p199 q198 .b, .ge p199 (XL.of [.G p199 true p200 (.mov q0) .s, .G p199 true p201 (.mov q7) tI, .G p199 true p202 (.idxs q200 q201) tC, .G p199 true p203 (.bin .leq (.c (.int .u8 (.ofNat 48))) q202) .b, .G p199 true p204 (.mov q203) .b, .ge p204 (XL.of [.G p204 true p205 (.mov q0) .s, .G p204 true p206 (.mov q7) tI, .G p204 true p207 (.idxs q205 q206) tC, .G p204 true p208 (.bin .leq q207 (.c (.int .u8 (.ofNat 57)))) .b, .G p199 true p209 (.pick q204 q208 (cb false)) .b]) p209 .b, .G p199 true p210 (.mov q209) .b, .ge p210 (XL.of [.G p210 false p211 (.mov q0) .s, .G p210 false p212 (.mov q7) tI, .G p210 false p213 (.idxs q211 q212) tC, .G p210 false p214 (.bin .eql q213 (.c (.int .u8 (.ofNat 95)))) .b, .G p199 true p215 (.pick q210 (cb true) q214) .b]) p215 .b, .P p216 (.pick q199 q215 (cb false)) .b]) p216 .b]) (.cond q216 .skip (.exit 5))) (.sj v106_14 (.block 6 (.seq (.seq (.oX [.mv p219 q0 .s, .mv p220 q7 tI, .P p221 (.idxs q219 q220) tC, .bn p222 .eql q221 (.c (.int .u8 (.ofNat 95))) .b]) (.cond q222 (.seq (.oX [.mv p9 (cb true) .b]) (.exit 6)) .skip)) (.sO [.mv p223 q20 tI, .bn p224 .lss q223 (ci 10000) .b] (.cond q224 (.s (.oX [.mv p225 q20 tI, .bn p226 .mul q225 (ci 10) tI, .mv p227 q0 .s, .mv p228 q7 tI, .P p229 (.idxs q227 q228) tC, .P p230 (.conv (.ii .i64) q229) tI, .bn p231 .add q226 q230 tI, .bn p232 .sub q231 (ci 48) tI, .mv p20 q232 tI])) (.s .skip))))) c106_14))
def v106_11 : List Pos := [p0, p2, p3, p4, p5, p6, p7, p8, p9, p16, p17, p19]
def c106_11 : XC := (.seq (.seq (.oX [.mv p179 q7 tI, .mv p180 q0 .s, .P p181 (.lens q180) tI, .bn p182 .geq q179 q181 .b, .mv p183 q182 .b, .ge p183 (XL.of [.G p183 false p184 (.mov q0) .s, .G p183 false p185 (.mov q7) tI, .G p183 false p186 (.idxs q184 q185) tC, .G p183 false p187 (.bin .lss q186 (.c (.int .u8 (.ofNat 48)))) .b, .P p188 (.pick q183 (cb true) q187) .b]) p188 .b, .mv p189 q188 .b, .ge p189 (XL.of [.G p189 false p190 (.mov q0) .s, .G p189 false p191 (.mov q7) tI, .G p189 false p192 (.idxs q190 q191) tC, .G p189 false p193 (.bin .gtr q192 (.c (.int .u8 (.ofNat 57)))) .b, .P p194 (.pick q189 (cb true) q193) .b]) p194 .b]) (.cond q194 .ret .skip)) (.sO [.mv p20 (ci 0) tI] (.sj v106_12 (.block 5 (.loop v106_13 c106_13b)) c106_12)))
def c106_15 : XC := (.cond q161 (.sO [.mv p162 q7 tI, .bn p163 .add q162 (ci 1) tI, .mv p7 q163 tI] (.seq (.seq (.oX [.mv p164 q7 tI, .mv p165 q0 .s, .P p166 (.lens q165) tI, .bn p167 .geq q164 q166 .b]) (.cond q167 .ret .skip)) (.sO [.mv p19 (ci 1) tI] (.sj v106_11 (.sO [.mv p168 q0 .s, .mv p169 q7 tI, .P p170 (.idxs q168 q169) tC] (.block 4 (.sO [.bn p172 .eql q170 (.c (.int .u8 (.ofNat 43))) .b, .mv p171 q172 .b] (.cond q171 (.s (.oX [.mv p173 q7 tI, .bn p174 .add q173 (ci 1) tI, .mv p7 q174 tI])) (.sO [.bn p176 .eql q170 (.c (.int .u8 (.ofNat 45))) .b, .mv p175 q176 .b] (.cond q175 (.sO [.mv p177 q7 tI, .bn p178 .add q177 (ci 1) tI, .mv p7 q178 tI] (.s (.oX [.mv p19 (.c (.int .i64 (.negSucc 0))) tI]))) (.s .skip))))))) c106_11)))) (.sO [.mv p238 q10 (.i .u64), .bn p239 .eql q238 (.c (.int .u64 (.ofNat 16))) .b] (.cond q239 (.s .ret) (.s .skip))))
def l106_10 : XL := (XL.of [])
def v106_4 : List Pos := [p0, p2, p3, p4, p5, p6, p7, p8, p9, p10, p12, p16, p17]
def c106_4 : XC := (.sj v106_5 (.opq false (XL.pre [.mv p150 q7 tI, .mv p151 q0 .s, .P p152 (.lens q151) tI, .bn p153 .lss q150 q152 .b, .mv p154 q153 .b, .sp p154, .G p154 true p155 (.mov q0) .s, .G p154 true p156 (.mov q7) tI, .G p154 true p157 (.idxs q155 q156) tC, .o ⟨(some p158), (.call (.fn 73) [q157]), (some (p154, true)), []⟩ tC, .G p154 true p159 (.mov q12) tC, .G p154 true p160 (.bin .eql q158 q159) .b, .P p161 (.pick q154 q160 (cb false)) .b, .jn p154 [p0, p2, p3, p4, p5, p6, p7, p8, p9, p10, p16, p17, p161]] l106_10) c106_15) c106_5)
def v106_3 : List Pos := [p0, p2, p3, p4, p5, p6, p7, p8, p9, p10, p12, p16, p17]
def c106_3 : XC := (.sj v106_4 (.sO [.mv p144 q10 (.i .u64), .bn p145 .eql q144 (.c (.int .u64 (.ofNat 16))) .b] (.cond q145 (.sO [.mv p146 q17 tI, .bn p147 .mul q146 (ci 4) tI, .mv p17 q147 tI] (.s (.oX [.mv p148 q16 tI, .bn p149 .mul q148 (ci 4) tI, .mv p16 q149 tI]))) (.s .skip))) c106_4)
def v106_2 : List Pos := [p0, p2, p3, p4, p5, p6, p7, p8, p9, p10, p12, p13, p14, p15, p16, p17]
def c106_2 : XC := (.seq (.seq (.oX [.mv p139 q14 .b, .P p140 (.un .not q139) .b]) (.cond q140 .ret .skip)) (.sj v106_3 (.sO [.mv p141 q13 .b, .P p142 (.un .not q141) .b] (.cond q142 (.s (.oX [.mv p143 q15 tI, .mv p17 q143 tI])) (.s .skip))) c106_3))
def v106_17 : List Pos := [p0, p2, p3, p4, p5, p6, p7, p8, p9, p10, p11, p12, p13, p14, p15, p16, p17]
def c106_17 : XC := (.s (.oX [.mv p61 q7 tI, .bn p62 .add q61 (ci 1) tI, .mv p7 q62 tI]))
def v106_18 : List Pos := [p0, p2, p3, p4, p5, p6, p7, p8, p9, p10, p12, p13, p14, p15, p16, p17]
def c106_18 : XC := (.s (.exit 1))
def v106_19 : List Pos := [p0, p2, p3, p4, p5, p6, p7, p8, p9, p10, p11, p12, p13, p14, p15, p16, p17]
def c106_19 : XC := (.s (.exit 2))
def v106_22 : List Pos := [p0, p2, p3, p4, p5, p6, p7, p8, p9, p10, p11, p12, p13, p14, p15, p16, p17]
def c106_22 : XC := (.s (.exit 2))
def c106_23 : XC := (.cond q109 (.sO [.mv p14 (cb true) .b] (.sO [.mv p123 q15 tI, .bn p124 .add q123 (ci 1) tI, .mv p15 q124 tI] (.sj v106_22 (.sO [.mv p125 q16 tI, .mv p126 q11 tI, .bn p127 .lss q125 q126 .b] (.cond q127 (.sO [.mv p128 q2 (.i .u64), .bn p129 .mul q128 (.c (.int .u64 (.ofNat 16))) (.i .u64), .mv p2 q129 (.i .u64)] (.sO [.mv p130 q2 (.i .u64), .mv p131 q18 tC, .cl p132 73 [q131] tC, .bn p133 .sub q132 (.c (.int .u8 (.ofNat 97))) tC, .bn p134 .add q133 (.c (.int .u8 (.ofNat 10))) tC, .P p135 (.conv (.ii .u64) q134) (.i .u64), .bn p136 .add q130 q135 (.i .u64), .mv p2 q136 (.i .u64)] (.s (.oX [.mv p137 q16 tI, .bn p138 .add q137 (ci 1) tI, .mv p16 q138 tI])))) (.s (.oX [.mv p5 (cb true) .b])))) c106_22))) (.s .skip))
def l106_21 : XL := (XL.of [.P p122 (.eqb false (cb true) q121) .b, .mv p109 q122 .b])
def l106_20 : XL := (XL.pre [.mv p117 q116 .b, .sp p117, .G p117 true p118 (.mov q18) tC, .o ⟨(some p119), (.call (.fn 73) [q118]), (some (p117, true)), []⟩ tC, .G p117 true p120 (.bin .leq q119 (.c (.int .u8 (.ofNat 102)))) .b, .P p121 (.pick q117 q120 (cb false)) .b, .jn p117 [p0, p2, p3, p4, p5, p6, p7, p8, p9, p10, p11, p12, p13, p14, p15, p16, p17, p18, p121]] l106_21)
def v106_16 : List Pos := [p0, p2, p3, p4, p5, p6, p7, p8, p9, p10, p11, p12, p13, p14, p15, p16, p17]
def c106_16b : XC := (.seq (.seq (.oX [.mv p57 q7 tI, .mv p58 q0 .s, .P p59 (.lens q58) tI, .bn p60 .lss q57 q59 .b]) (.cond q60 .skip (.exit 1))) (.sj v106_17 (.block 2 (.sj v106_18 (.sO [.mv p63 q0 .s, .mv p64 q7 tI, .P p65 (.idxs q63 q64) tC, .mv p18 q65 tC] (.block 3 (.sO [.mv p67 q18 tC, .bn p68 .eql q67 (.c (.int .u8 (.ofNat 95))) .b, .P p69 (.eqb false (cb true) q68) .b, .mv p66 q69 .b] (.cond q66 (.sO [.mv p9 (cb true) .b] (.s (.exit 2))) (.sO [.mv p71 q18 tC, .bn p72 .eql q71 (.c (.int .u8 (.ofNat 46))) .b, .P p73 (.eqb false (cb true) q72) .b, .mv p70 q73 .b] (.cond q70 (.seq (.seq (.oX [.mv p74 q13 .b]) (.cond q74 (.exit 1) .skip)) (.sO [.mv p13 (cb true) .b] (.sO [.mv p75 q15 tI, .mv p17 q75 tI] (.s (.exit 2))))) (.sO [.mv p77 q18 tC, .bn p78 .leq (.c (.int .u8 (.ofNat 48))) q77 .b, .mv p79 q78 .b, .ge p79 (XL.of [.G p79 true p80 (.mov q18) tC, .G p79 true p81 (.bin .leq q80 (.c (.int .u8 (.ofNat 57)))) .b, .P p82 (.pick q79 q81 (cb false)) .b]) p82 .b, .P p83 (.eqb false (cb true) q82) .b, .mv p76 q83 .b] (.cond q76 (.sO [.mv p14 (cb true) .b] (.seq (.seq (.oX [.mv p84 q18 tC, .bn p85 .eql q84 (.c (.int .u8 (.ofNat 48))) .b, .mv p86 q85 .b, .ge p86 (XL.of [.G p86 true p87 (.mov q15) tI, .G p86 true p88 (.bin .eql q87 (ci 0)) .b, .P p89 (.pick q86 q88 (cb false)) .b]) p89 .b]) (.cond q89 (.seq (.oX [.mv p90 q17 tI, .bn p91 .sub q90 (ci 1) tI, .mv p17 q91 tI]) (.exit 2)) .skip)) (.sO [.mv p92 q15 tI, .bn p93 .add q92 (ci 1) tI, .mv p15 q93 tI] (.sj v106_19 (.sO [.mv p94 q16 tI, .mv p95 q11 tI, .bn p96 .lss q94 q95 .b] (.cond q96 (.sO [.mv p97 q2 (.i .u64), .mv p98 q10 (.i .u64), .bn p99 .mul q97 q98 (.i .u64), .mv p2 q99 (.i .u64)] (.sO [.mv p100 q2 (.i .u64), .mv p101 q18 tC, .bn p102 .sub q101 (.c (.int .u8 (.ofNat 48))) tC, .P p103 (.conv (.ii .u64) q102) (.i .u64), .bn p104 .add q100 q103 (.i .u64), .mv p2 q104 (.i .u64)] (.s (.oX [.mv p105 q16 tI, .bn p106 .add q105 (ci 1) tI, .mv p16 q106 tI])))) (.sO [.mv p107 q18 tC, .bn p108 .neq q107 (.c (.int .u8 (.ofNat 48))) .b] (.cond q108 (.s (.oX [.mv p5 (cb true) .b])) (.s .skip))))) c106_19)))) (.opq false (XL.pre [.mv p110 q10 (.i .u64), .bn p111 .eql q110 (.c (.int .u64 (.ofNat 16))) .b, .mv p112 q111 .b, .sp p112, .G p112 true p113 (.mov q18) tC, .o ⟨(some p114), (.call (.fn 73) [q113]), (some (p112, true)), []⟩ tC, .G p112 true p115 (.bin .leq (.c (.int .u8 (.ofNat 97))) q114) .b, .P p116 (.pick q112 q115 (cb false)) .b, .jn p112 [p0, p2, p3, p4, p5, p6, p7, p8, p9, p10, p11, p12, p13, p14, p15, p16, p17, p18, p116]] l106_20) c106_23))))))))) c106_18)) c106_17))
def v106_1 : List Pos := [p0, p2, p3, p4, p5, p6, p7, p8, p9, p10, p11, p12]
def c106_1 : XC := (.sO [.mv p13 (cb false) .b] (.sO [.mv p14 (cb false) .b] (.sO [.mv p15 (ci 0) tI] (.sO [.mv p16 (ci 0) tI] (.sO [.mv p17 (ci 0) tI] (.seq .skip (.sj v106_2 (.block 1 (.loop v106_16 c106_16b)) c106_2)))))))
def c106_25 : XC := (.cond q54 (.sO [.mv p10 (.c (.int .u64 (.ofNat 16))) (.i .u64)] (.sO [.mv p11 (ci 16) tI] (.sO [.mv p55 q7 tI, .bn p56 .add q55 (ci 2) tI, .mv p7 q56 tI] (.sO [.mv p12 (.c (.int .u8 (.ofNat 112))) tC] (.s (.oX [.mv p6 (cb true) .b])))))) (.s .skip))
def l106_24 : XL := (XL.of [])
def v106_0 : List Pos := [p0, p2, p3, p4, p5, p6, p7, p8, p9]
def c106_0 : XC := (.sO [.mv p10 (.c (.int .u64 (.ofNat 10))) (.i .u64)] (.sO [.mv p11 (ci 19) tI] (.sO [.mv p12 (.c (.int .u8 (.ofNat 101))) tC] (.sj v106_1 (.opq false (XL.pre [.mv p36 q7 tI, .bn p37 .add q36 (ci 2) tI, .mv p38 q0 .s, .P p39 (.lens q38) tI, .bn p40 .lss q37 q39 .b, .mv p41 q40 .b, .ge p41 (XL.of [.G p41 true p42 (.mov q0) .s, .G p41 true p43 (.mov q7) tI, .G p41 true p44 (.idxs q42 q43) tC, .G p41 true p45 (.bin .eql q44 (.c (.int .u8 (.ofNat 48)))) .b, .P p46 (.pick q41 q45 (cb false)) .b]) p46 .b, .mv p47 q46 .b, .sp p47, .G p47 true p48 (.mov q0) .s, .G p47 true p49 (.mov q7) tI, .G p47 true p50 (.bin .add q49 (ci 1)) tI, .G p47 true p51 (.idxs q48 q50) tC, .o ⟨(some p52), (.call (.fn 73) [q51]), (some (p47, true)), []⟩ tC, .G p47 true p53 (.bin .eql q52 (.c (.int .u8 (.ofNat 120)))) .b, .P p54 (.pick q47 q53 (cb false)) .b, .jn p47 [p0, p2, p3, p4, p5, p6, p7, p8, p9, p10, p11, p12, p54]] l106_24) c106_25) c106_1))))
def c106_e : XC := (.sO [.mv p2 (.c (.int .u64 (.ofNat 0))) (.i .u64), .mv p3 (ci 0) tI, .mv p4 (cb false) .b, .mv p5 (cb false) .b, .mv p6 (cb false) .b, .mv p7 (ci 0) tI, .mv p8 (cb false) .b] (.scope (.sO [.mv p9 (cb false) .b] (.seq (.seq (.oX [.mv p21 q7 tI, .mv p22 q0 .s, .P p23 (.lens q22) tI, .bn p24 .geq q21 q23 .b]) (.cond q24 .ret .skip)) (.sj v106_0 (.sO [.mv p25 q0 .s, .mv p26 q7 tI, .P p27 (.idxs q25 q26) tC] (.block 0 (.sO [.bn p29 .eql q27 (.c (.int .u8 (.ofNat 43))) .b, .mv p28 q29 .b] (.cond q28 (.s (.oX [.mv p30 q7 tI, .bn p31 .add q30 (ci 1) tI, .mv p7 q31 tI])) (.sO [.bn p33 .eql q27 (.c (.int .u8 (.ofNat 45))) .b, .mv p32 q33 .b] (.cond q32 (.sO [.mv p34 q7 tI, .bn p35 .add q34 (ci 1) tI, .mv p7 q35 tI] (.s (.oX [.mv p4 (cb true) .b]))) (.s .skip))))))) c106_0)))))
def x106 : XFn := ⟨[.s], false, [(.tmp p2), (.tmp p3), (.tmp p4), (.tmp p5), (.tmp p6), (.tmp p7), (.tmp p8)], c106_e⟩
def e106_7 (k t2 t3 t4 t5 t6 t7 h) := kN k [(p2, (AV.int .u64 t2)), (p3, (vI t3)), (p4, (vB t4)), (p5, (vB t5)), (p6, (vB t6)), (p7, (vI t7))] h
def S106_7 (D : CallD) (m : Nat) (t2 t3 : Int) (t4 t5 t6 : Bool) (t7 : Int) (h : HP) : Res2 :=
 some (.ret (.tup [(AV.int .u64 t2), (vI t3), (vB t4), (vB t5), (vB t6), (vI t7), (vB true)]) h, .no)
def e106_8 (k t2 t3 t4 t5 t6 t7 t8 t252 h) := kN k [(p2, (AV.int .u64 t2)), (p3, (vI t3)), (p4, (vB t4)), (p5, (vB t5)), (p6, (vB t6)), (p7, (vI t7)), (p8, (vB t8)), (p252, (vB t252))] h
def S106_8 (D : CallD) (m : Nat) (t2 t3 : Int) (t4 t5 t6 : Bool) (t7 : Int) (t8 t252 : Bool) (h : HP) : Res2 :=
 br t252 (
 some (.ret (.tup [(AV.int .u64 t2), (vI t3), (vB t4), (vB t5), (vB t6), (vI t7), (vB t8)]) h, .no)) (
 S106_7 D m t2 t3 t4 t5 t6 t7 h)
def e106_6 (k t0 t2 t3 t4 t5 t6 t7 t8 t9 h) := kN k [(p0, (vS t0)), (p2, (AV.int .u64 t2)), (p3, (vI t3)), (p4, (vB t4)), (p5, (vB t5)), (p6, (vB t6)), (p7, (vI t7)), (p8, (vB t8)), (p9, (vB t9))] h
def S106_6 (D : CallD) (m : Nat) (t0 : LN) (t2 t3 : Int) (t4 t5 t6 : Bool) (t7 : Int) (t8 t9 : Bool) (h : HP) : Res2 :=
 br t9 (
 slC (vS t0) none (some (vI t7)) fun vt249 => asS vt249 fun t249 =>
 cal D 74 [(vS t249)] h fun t250 h27 =>
 asB t250 fun t250a =>
 let t251 := !t250a
 S106_8 D m t2 t3 t4 t5 t6 t7 t8 t251 h27) (
 S106_8 D m t2 t3 t4 t5 t6 t7 t8 false h)
def e106_5 (k t0 t2 t3 t4 t5 t6 t7 t8 t9 t16 t17 h) := kN k [(p0, (vS t0)), (p2, (AV.int .u64 t2)), (p3, (vI t3)), (p4, (vB t4)), (p5, (vB t5)), (p6, (vB t6)), (p7, (vI t7)), (p8, (vB t8)), (p9, (vB t9)), (p16, (vI t16)), (p17, (vI t17))] h
def S106_5 (D : CallD) (m : Nat) (t0 : LN) (t2 t3 : Int) (t4 t5 t6 : Bool) (t7 : Int) (t8 t9 : Bool) (t16 t17 : Int) (h : HP) : Res2 :=
 let t241 := notQ (eqQ t2 (Int.ofNat 0))
 br t241 (
 let t244 := wrQ .i64 (t17 - t16)
 S106_6 D m t0 t2 t244 t4 t5 t6 t7 t8 t9 h) (
 S106_6 D m t0 t2 t3 t4 t5 t6 t7 t8 t9 h)
def e106_12 (k t0 t2 t3 t4 t5 t6 t7 t8 t9 t16 t17 t19 t20 h) := kN k [(p0, (vS t0)), (p2, (AV.int .u64 t2)), (p3, (vI t3)), (p4, (vB t4)), (p5, (vB t5)), (p6, (vB t6)), (p7, (vI t7)), (p8, (vB t8)), (p9, (vB t9)), (p16, (vI t16)), (p17, (vI t17)), (p19, (vI t19)), (p20, (vI t20))] h
def S106_12 (D : CallD) (m : Nat) (t0 : LN) (t2 t3 : Int) (t4 t5 t6 : Bool) (t7 : Int) (t8 t9 : Bool) (t16 t17 t19 t20 : Int) (h : HP) : Res2 :=
 let t236 := wrQ .i64 (t20 * t19)
 let t237 := wrQ .i64 (addQ t17 t236)
 S106_5 D m t0 t2 t3 t4 t5 t6 t7 t8 t9 t16 t237 h
def e106_14 (k t0 t2 t3 t4 t5 t6 t7 t8 t9 t16 t17 t19 t20 h) := kN k [(p0, (vS t0)), (p2, (AV.int .u64 t2)), (p3, (vI t3)), (p4, (vB t4)), (p5, (vB t5)), (p6, (vB t6)), (p7, (vI t7)), (p8, (vB t8)), (p9, (vB t9)), (p16, (vI t16)), (p17, (vI t17)), (p19, (vI t19)), (p20, (vI t20))] h
def S106_14 (D : CallD) (m : Nat) (g13 : LN → Int → Int → Bool → Bool → Bool → Int → Bool → Bool → Int → Int → Int → Int → HP → Res2) (t0 : LN) (t2 t3 : Int) (t4 t5 t6 : Bool) (t7 : Int) (t8 t9 : Bool) (t16 t17 t19 t20 : Int) (h : HP) : Res2 :=
 let t218 := wrQ .i64 (addQ t7 (Int.ofNat 1))
 g13 t0 t2 t3 t4 t5 t6 t218 t8 t9 t16 t17 t19 t20 h
def e106_13 (k t0 t2 t3 t4 t5 t6 t7 t8 t9 t16 t17 t19 t20 h) := kN k [(p0, (vS t0)), (p2, (AV.int .u64 t2)), (p3, (vI t3)), (p4, (vB t4)), (p5, (vB t5)), (p6, (vB t6)), (p7, (vI t7)), (p8, (vB t8)), (p9, (vB t9)), (p16, (vI t16)), (p17, (vI t17)), (p19, (vI t19)), (p20, (vI t20))] h
def S106_13b (D : CallD) (m : Nat) (g13 : LN → Int → Int → Bool → Bool → Bool → Int → Bool → Bool → Int → Int → Int → Int → HP → Res2) (t0 : LN) (t2 t3 : Int) (t4 t5 t6 : Bool) (t7 : Int) (t8 t9 : Bool) (t16 t17 t19 t20 : Int) (h : HP) : Res2 :=
 let t197 := Int.ofNat (lenL t0)
 let t198 := ltQ t7 t197
 obB (brV t198 (
 ixCV (vS t0) (vI t7) fun vt202 => asIV .u8 vt202 fun t202 =>
 let t203 := leQ (Int.ofNat 48) t202
 obBV (brV t203 (
 ixCV (vS t0) (vI t7) fun vt207 => asIV .u8 vt207 fun t207 =>
 let t208 := leQ t207 (Int.ofNat 57)
 some (vB t208)) (
 some (vB false))) fun t209 =>
 obBV (brV t209 (
 some (vB true)) (
 ixCV (vS t0) (vI t7) fun vt213 => asIV .u8 vt213 fun t213 =>
 let t214 := eqQ t213 (Int.ofNat 95)
 some (vB t214))) fun t215 =>
 some (vB t215)) (
 some (vB false))) fun t216 =>
 br t216 (
 ixC (vS t0) (vI t7) fun vt221 => asI .u8 vt221 fun t221 =>
 let t222 := eqQ t221 (Int.ofNat 95)
 br t222 (
 S106_14 D m g13 t0 t2 t3 t4 t5 t6 t7 t8 true t16 t17 t19 t20 h) (
 let t224 := ltQ t20 (Int.ofNat 10000)
 br t224 (
 let t226 := wrQ .i64 (t20 * (Int.ofNat 10))
 ixC (vS t0) (vI t7) fun vt229 => asI .u8 vt229 fun t229 =>
 let t230 := wrapF .i64 t229
 let t231 := wrQ .i64 (addQ t226 t230)
 let t232 := wrQ .i64 (t231 - (Int.ofNat 48))
 S106_14 D m g13 t0 t2 t3 t4 t5 t6 t7 t8 t9 t16 t17 t19 t232 h) (
 S106_14 D m g13 t0 t2 t3 t4 t5 t6 t7 t8 t9 t16 t17 t19 t20 h))) (
 S106_12 D m t0 t2 t3 t4 t5 t6 t7 t8 t9 t16 t17 t19 t20 h)
def S106_13 (D : CallD) (m : Nat) : LN → Int → Int → Bool → Bool → Bool → Int → Bool → Bool → Int → Int → Int → Int → HP → Res2 := nrec (fun _ _ _ _ _ _ _ _ _ _ _ _ _ _ => none) (fun _ g => S106_13b D m g) m
def e106_11 (k t0 t2 t3 t4 t5 t6 t7 t8 t9 t16 t17 t19 h) := kN k [(p0, (vS t0)), (p2, (AV.int .u64 t2)), (p3, (vI t3)), (p4, (vB t4)), (p5, (vB t5)), (p6, (vB t6)), (p7, (vI t7)), (p8, (vB t8)), (p9, (vB t9)), (p16, (vI t16)), (p17, (vI t17)), (p19, (vI t19))] h
def S106_11 (D : CallD) (m : Nat) (t0 : LN) (t2 t3 : Int) (t4 t5 t6 : Bool) (t7 : Int) (t8 t9 : Bool) (t16 t17 t19 : Int) (h : HP) : Res2 :=
 let t181 := Int.ofNat (lenL t0)
 let t182 := leQ t181 t7
 obB (brV t182 (
 some (vB true)) (
 ixCV (vS t0) (vI t7) fun vt186 => asIV .u8 vt186 fun t186 =>
 let t187 := ltQ t186 (Int.ofNat 48)
 some (vB t187))) fun t188 =>
 obB (brV t188 (
 some (vB true)) (
 ixCV (vS t0) (vI t7) fun vt192 => asIV .u8 vt192 fun t192 =>
 let t193 := ltQ (Int.ofNat 57) t192
 some (vB t193))) fun t194 =>
 br t194 (
 some (.ret (.tup [(AV.int .u64 t2), (vI t3), (vB t4), (vB t5), (vB t6), (vI t7), (vB t8)]) h, .no)) (
 S106_13 D m t0 t2 t3 t4 t5 t6 t7 t8 t9 t16 t17 t19 (Int.ofNat 0) h)
def e106_10 (k t0 t2 t3 t4 t5 t6 t7 t8 t9 t10 t16 t17 t161 h) := kN k [(p0, (vS t0)), (p2, (AV.int .u64 t2)), (p3, (vI t3)), (p4, (vB t4)), (p5, (vB t5)), (p6, (vB t6)), (p7, (vI t7)), (p8, (vB t8)), (p9, (vB t9)), (p10, (AV.int .u64 t10)), (p16, (vI t16)), (p17, (vI t17)), (p161, (vB t161))] h
def S106_10 (D : CallD) (m : Nat) (t0 : LN) (t2 t3 : Int) (t4 t5 t6 : Bool) (t7 : Int) (t8 t9 : Bool) (t10 t16 t17 : Int) (t161 : Bool) (h : HP) : Res2 :=
 br t161 (
 let t163 := wrQ .i64 (addQ t7 (Int.ofNat 1))
 let t166 := Int.ofNat (lenL t0)
 let t167 := leQ t166 t163
 br t167 (
 some (.ret (.tup [(AV.int .u64 t2), (vI t3), (vB t4), (vB t5), (vB t6), (vI t163), (vB t8)]) h, .no)) (
 ixC (vS t0) (vI t163) fun vt170 => asI .u8 vt170 fun t170 =>
 let t172 := eqQ t170 (Int.ofNat 43)
 br t172 (
 let t174 := wrQ .i64 (addQ t163 (Int.ofNat 1))
 S106_11 D m t0 t2 t3 t4 t5 t6 t174 t8 t9 t16 t17 (Int.ofNat 1) h) (
 let t176 := eqQ t170 (Int.ofNat 45)
 br t176 (
 let t178 := wrQ .i64 (addQ t163 (Int.ofNat 1))
 S106_11 D m t0 t2 t3 t4 t5 t6 t178 t8 t9 t16 t17 (Int.negSucc 0) h) (
 S106_11 D m t0 t2 t3 t4 t5 t6 t163 t8 t9 t16 t17 (Int.ofNat 1) h)))) (
 let t239 := eqQ t10 (Int.ofNat 16)
 br t239 (
 some (.ret (.tup [(AV.int .u64 t2), (vI t3), (vB t4), (vB t5), (vB t6), (vI t7), (vB t8)]) h, .no)) (
 S106_5 D m t0 t2 t3 t4 t5 t6 t7 t8 t9 t16 t17 h))
def e106_4 (k t0 t2 t3 t4 t5 t6 t7 t8 t9 t10 t12 t16 t17 h) := kN k [(p0, (vS t0)), (p2, (AV.int .u64 t2)), (p3, (vI t3)), (p4, (vB t4)), (p5, (vB t5)), (p6, (vB t6)), (p7, (vI t7)), (p8, (vB t8)), (p9, (vB t9)), (p10, (AV.int .u64 t10)), (p12, (vC t12)), (p16, (vI t16)), (p17, (vI t17))] h
def S106_4 (D : CallD) (m : Nat) (t0 : LN) (t2 t3 : Int) (t4 t5 t6 : Bool) (t7 : Int) (t8 t9 : Bool) (t10 t12 t16 t17 : Int) (h : HP) : Res2 :=
 let t152 := Int.ofNat (lenL t0)
 let t153 := ltQ t7 t152
 br t153 (
 ixC (vS t0) (vI t7) fun vt157 => asI .u8 vt157 fun t157 =>
 cal D 73 [(vC t157)] h fun t158 h28 =>
 asI .u8 t158 fun t158a =>
 let t160 := eqQ t158a t12
 S106_10 D m t0 t2 t3 t4 t5 t6 t7 t8 t9 t10 t16 t17 t160 h28) (
 S106_10 D m t0 t2 t3 t4 t5 t6 t7 t8 t9 t10 t16 t17 false h)
def e106_3 (k t0 t2 t3 t4 t5 t6 t7 t8 t9 t10 t12 t16 t17 h) := kN k [(p0, (vS t0)), (p2, (AV.int .u64 t2)), (p3, (vI t3)), (p4, (vB t4)), (p5, (vB t5)), (p6, (vB t6)), (p7, (vI t7)), (p8, (vB t8)), (p9, (vB t9)), (p10, (AV.int .u64 t10)), (p12, (vC t12)), (p16, (vI t16)), (p17, (vI t17))] h
def S106_3 (D : CallD) (m : Nat) (t0 : LN) (t2 t3 : Int) (t4 t5 t6 : Bool) (t7 : Int) (t8 t9 : Bool) (t10 t12 t16 t17 : Int) (h : HP) : Res2 :=
 let t145 := eqQ t10 (Int.ofNat 16)
 br t145 (
 let t147 := wrQ .i64 (t17 * (Int.ofNat 4))
 let t149 := wrQ .i64 (t16 * (Int.ofNat 4))
 S106_4 D m t0 t2 t3 t4 t5 t6 t7 t8 t9 t10 t12 t149 t147 h) (
 S106_4 D m t0 t2 t3 t4 t5 t6 t7 t8 t9 t10 t12 t16 t17 h)
def e106_2 (k t0 t2 t3 t4 t5 t6 t7 t8 t9 t10 t12 t13 t14 t15 t16 t17 h) := kN k [(p0, (vS t0)), (p2, (AV.int .u64 t2)), (p3, (vI t3)), (p4, (vB t4)), (p5, (vB t5)), (p6, (vB t6)), (p7, (vI t7)), (p8, (vB t8)), (p9, (vB t9)), (p10, (AV.int .u64 t10)), (p12, (vC t12)), (p13, (vB t13)), (p14, (vB t14)), (p15, (vI t15)), (p16, (vI t16)), (p17, (vI t17))] h
def S106_2 (D : CallD) (m : Nat) (t0 : LN) (t2 t3 : Int) (t4 t5 t6 : Bool) (t7 : Int) (t8 t9 : Bool) (t10 t12 : Int) (t13 t14 : Bool) (t15 t16 t17 : Int) (h : HP) : Res2 :=
 let t140 := !t14
 br t140 (
 some (.ret (.tup [(AV.int .u64 t2), (vI t3), (vB t4), (vB t5), (vB t6), (vI t7), (vB t8)]) h, .no)) (
 let t142 := !t13
 br t142 (
 S106_3 D m t0 t2 t3 t4 t5 t6 t7 t8 t9 t10 t12 t16 t15 h) (
 S106_3 D m t0 t2 t3 t4 t5 t6 t7 t8 t9 t10 t12 t16 t17 h))
def e106_17 (k t0 t2 t3 t4 t5 t6 t7 t8 t9 t10 t11 t12 t13 t14 t15 t16 t17 h) := kN k [(p0, (vS t0)), (p2, (AV.int .u64 t2)), (p3, (vI t3)), (p4, (vB t4)), (p5, (vB t5)), (p6, (vB t6)), (p7, (vI t7)), (p8, (vB t8)), (p9, (vB t9)), (p10, (AV.int .u64 t10)), (p11, (vI t11)), (p12, (vC t12)), (p13, (vB t13)), (p14, (vB t14)), (p15, (vI t15)), (p16, (vI t16)), (p17, (vI t17))] h
def S106_17 (D : CallD) (m : Nat) (g16 : LN → Int → Int → Bool → Bool → Bool → Int → Bool → Bool → Int → Int → Int → Bool → Bool → Int → Int → Int → HP → Res2) (t0 : LN) (t2 t3 : Int) (t4 t5 t6 : Bool) (t7 : Int) (t8 t9 : Bool) (t10 t11 t12 : Int) (t13 t14 : Bool) (t15 t16 t17 : Int) (h : HP) : Res2 :=
 let t62 := wrQ .i64 (addQ t7 (Int.ofNat 1))
 g16 t0 t2 t3 t4 t5 t6 t62 t8 t9 t10 t11 t12 t13 t14 t15 t16 t17 h
def e106_18 (k t0 t2 t3 t4 t5 t6 t7 t8 t9 t10 t12 t13 t14 t15 t16 t17 h) := kN k [(p0, (vS t0)), (p2, (AV.int .u64 t2)), (p3, (vI t3)), (p4, (vB t4)), (p5, (vB t5)), (p6, (vB t6)), (p7, (vI t7)), (p8, (vB t8)), (p9, (vB t9)), (p10, (AV.int .u64 t10)), (p12, (vC t12)), (p13, (vB t13)), (p14, (vB t14)), (p15, (vI t15)), (p16, (vI t16)), (p17, (vI t17))] h
def S106_18 (D : CallD) (m : Nat) (g16 : LN → Int → Int → Bool → Bool → Bool → Int → Bool → Bool → Int → Int → Int → Bool → Bool → Int → Int → Int → HP → Res2) (t0 : LN) (t2 t3 : Int) (t4 t5 t6 : Bool) (t7 : Int) (t8 t9 : Bool) (t10 t12 : Int) (t13 t14 : Bool) (t15 t16 t17 : Int) (h : HP) : Res2 :=
 S106_2 D m t0 t2 t3 t4 t5 t6 t7 t8 t9 t10 t12 t13 t14 t15 t16 t17 h
def e106_19 (k t0 t2 t3 t4 t5 t6 t7 t8 t9 t10 t11 t12 t13 t14 t15 t16 t17 h) := kN k [(p0, (vS t0)), (p2, (AV.int .u64 t2)), (p3, (vI t3)), (p4, (vB t4)), (p5, (vB t5)), (p6, (vB t6)), (p7, (vI t7)), (p8, (vB t8)), (p9, (vB t9)), (p10, (AV.int .u64 t10)), (p11, (vI t11)), (p12, (vC t12)), (p13, (vB t13)), (p14, (vB t14)), (p15, (vI t15)), (p16, (vI t16)), (p17, (vI t17))] h
def S106_19 (D : CallD) (m : Nat) (g16 : LN → Int → Int → Bool → Bool → Bool → Int → Bool → Bool → Int → Int → Int → Bool → Bool → Int → Int → Int → HP → Res2) (t0 : LN) (t2 t3 : Int) (t4 t5 t6 : Bool) (t7 : Int) (t8 t9 : Bool) (t10 t11 t12 : Int) (t13 t14 : Bool) (t15 t16 t17 : Int) (h : HP) : Res2 :=
 S106_17 D m g16 t0 t2 t3 t4 t5 t6 t7 t8 t9 t10 t11 t12 t13 t14 t15 t16 t17 h
def e106_22 (k t0 t2 t3 t4 t5 t6 t7 t8 t9 t10 t11 t12 t13 t14 t15 t16 t17 h) := kN k [(p0, (vS t0)), (p2, (AV.int .u64 t2)), (p3, (vI t3)), (p4, (vB t4)), (p5, (vB t5)), (p6, (vB t6)), (p7, (vI t7)), (p8, (vB t8)), (p9, (vB t9)), (p10, (AV.int .u64 t10)), (p11, (vI t11)), (p12, (vC t12)), (p13, (vB t13)), (p14, (vB t14)), (p15, (vI t15)), (p16, (vI t16)), (p17, (vI t17))] h
def S106_22 (D : CallD) (m : Nat) (g16 : LN → Int → Int → Bool → Bool → Bool → Int → Bool → Bool → Int → Int → Int → Bool → Bool → Int → Int → Int → HP → Res2) (t0 : LN) (t2 t3 : Int) (t4 t5 t6 : Bool) (t7 : Int) (t8 t9 : Bool) (t10 t11 t12 : Int) (t13 t14 : Bool) (t15 t16 t17 : Int) (h : HP) : Res2 :=
 S106_17 D m g16 t0 t2 t3 t4 t5 t6 t7 t8 t9 t10 t11 t12 t13 t14 t15 t16 t17 h
def e106_21 (k t0 t2 t3 t4 t5 t6 t7 t8 t9 t10 t11 t12 t13 t14 t15 t16 t17 t18 t121 h) := kN k [(p0, (vS t0)), (p2, (AV.int .u64 t2)), (p3, (vI t3)), (p4, (vB t4)), (p5, (vB t5)), (p6, (vB t6)), (p7, (vI t7)), (p8, (vB t8)), (p9, (vB t9)), (p10, (AV.int .u64 t10)), (p11, (vI t11)), (p12, (vC t12)), (p13, (vB t13)), (p14, (vB t14)), (p15, (vI t15)), (p16, (vI t16)), (p17, (vI t17)), (p18, (vC t18)), (p121, (vB t121))] h
def S106_21 (D : CallD) (m : Nat) (g16 : LN → Int → Int → Bool → Bool → Bool → Int → Bool → Bool → Int → Int → Int → Bool → Bool → Int → Int → Int → HP → Res2) (t0 : LN) (t2 t3 : Int) (t4 t5 t6 : Bool) (t7 : Int) (t8 t9 : Bool) (t10 t11 t12 : Int) (t13 t14 : Bool) (t15 t16 t17 t18 : Int) (t121 : Bool) (h : HP) : Res2 :=
 let t122 := ((true == t121) != false)
 br t122 (
 let t124 := wrQ .i64 (addQ t15 (Int.ofNat 1))
 let t127 := ltQ t16 t11
 br t127 (
 let t129 := wrQ .u64 (t2 * (Int.ofNat 16))
 cal D 73 [(vC t18)] h fun t132 h31 =>
 asI .u8 t132 fun t132a =>
 let t133 := wrQ .u8 (t132a - (Int.ofNat 97))
 let t134 := wrQ .u8 (addQ t133 (Int.ofNat 10))
 let t135 := wrapF .u64 t134
 let t136 := wrQ .u64 (addQ t129 t135)
 let t138 := wrQ .i64 (addQ t16 (Int.ofNat 1))
 S106_22 D m g16 t0 t136 t3 t4 t5 t6 t7 t8 t9 t10 t11 t12 t13 true t124 t138 t17 h31) (
 S106_22 D m g16 t0 t2 t3 t4 true t6 t7 t8 t9 t10 t11 t12 t13 true t124 t16 t17 h)) (
 S106_18 D m g16 t0 t2 t3 t4 t5 t6 t7 t8 t9 t10 t12 t13 t14 t15 t16 t17 h)
def e106_20 (k t0 t2 t3 t4 t5 t6 t7 t8 t9 t10 t11 t12 t13 t14 t15 t16 t17 t18 t116 h) := kN k [(p0, (vS t0)), (p2, (AV.int .u64 t2)), (p3, (vI t3)), (p4, (vB t4)), (p5, (vB t5)), (p6, (vB t6)), (p7, (vI t7)), (p8, (vB t8)), (p9, (vB t9)), (p10, (AV.int .u64 t10)), (p11, (vI t11)), (p12, (vC t12)), (p13, (vB t13)), (p14, (vB t14)), (p15, (vI t15)), (p16, (vI t16)), (p17, (vI t17)), (p18, (vC t18)), (p116, (vB t116))] h
def S106_20 (D : CallD) (m : Nat) (g16 : LN → Int → Int → Bool → Bool → Bool → Int → Bool → Bool → Int → Int → Int → Bool → Bool → Int → Int → Int → HP → Res2) (t0 : LN) (t2 t3 : Int) (t4 t5 t6 : Bool) (t7 : Int) (t8 t9 : Bool) (t10 t11 t12 : Int) (t13 t14 : Bool) (t15 t16 t17 t18 : Int) (t116 : Bool) (h : HP) : Res2 :=
 br t116 (
 cal D 73 [(vC t18)] h fun t119 h30 =>
 asI .u8 t119 fun t119a =>
 let t120 := leQ t119a (Int.ofNat 102)
 S106_21 D m g16 t0 t2 t3 t4 t5 t6 t7 t8 t9 t10 t11 t12 t13 t14 t15 t16 t17 t18 t120 h30) (
 S106_21 D m g16 t0 t2 t3 t4 t5 t6 t7 t8 t9 t10 t11 t12 t13 t14 t15 t16 t17 t18 false h)
def e106_16 (k t0 t2 t3 t4 t5 t6 t7 t8 t9 t10 t11 t12 t13 t14 t15 t16 t17 h) := kN k [(p0, (vS t0)), (p2, (AV.int .u64 t2)), (p3, (vI t3)), (p4, (vB t4)), (p5, (vB t5)), (p6, (vB t6)), (p7, (vI t7)), (p8, (vB t8)), (p9, (vB t9)), (p10, (AV.int .u64 t10)), (p11, (vI t11)), (p12, (vC t12)), (p13, (vB t13)), (p14, (vB t14)), (p15, (vI t15)), (p16, (vI t16)), (p17, (vI t17))] h
def S106_16b (D : CallD) (m : Nat) (g16 : LN → Int → Int → Bool → Bool → Bool → Int → Bool → Bool → Int → Int → Int → Bool → Bool → Int → Int → Int → HP → Res2) (t0 : LN) (t2 t3 : Int) (t4 t5 t6 : Bool) (t7 : Int) (t8 t9 : Bool) (t10 t11 t12 : Int) (t13 t14 : Bool) (t15 t16 t17 : Int) (h : HP) : Res2 :=
 let t59 := Int.ofNat (lenL t0)
 let t60 := ltQ t7 t59
 br t60 (
 ixC (vS t0) (vI t7) fun vt65 => asI .u8 vt65 fun t65 =>
 let t68 := eqQ t65 (Int.ofNat 95)
 let t69 := ((true == t68) != false)
 br t69 (
 S106_17 D m g16 t0 t2 t3 t4 t5 t6 t7 t8 true t10 t11 t12 t13 t14 t15 t16 t17 h) (
 let t72 := eqQ t65 (Int.ofNat 46)
 let t73 := ((true == t72) != false)
 br t73 (
 br t13 (
 S106_2 D m t0 t2 t3 t4 t5 t6 t7 t8 t9 t10 t12 t13 t14 t15 t16 t17 h) (
 S106_17 D m g16 t0 t2 t3 t4 t5 t6 t7 t8 t9 t10 t11 t12 true t14 t15 t16 t15 h)) (
 let t78 := leQ (Int.ofNat 48) t65
 obB (brV t78 (
 let t81 := leQ t65 (Int.ofNat 57)
 some (vB t81)) (
 some (vB false))) fun t82 =>
 let t83 := ((true == t82) != false)
 br t83 (
 let t85 := eqQ t65 (Int.ofNat 48)
 obB (brV t85 (
 let t88 := eqQ t15 (Int.ofNat 0)
 some (vB t88)) (
 some (vB false))) fun t89 =>
 br t89 (
 let t91 := wrQ .i64 (t17 - (Int.ofNat 1))
 S106_17 D m g16 t0 t2 t3 t4 t5 t6 t7 t8 t9 t10 t11 t12 t13 true t15 t16 t91 h) (
 let t93 := wrQ .i64 (addQ t15 (Int.ofNat 1))
 let t96 := ltQ t16 t11
 br t96 (
 let t99 := wrQ .u64 (t2 * t10)
 let t102 := wrQ .u8 (t65 - (Int.ofNat 48))
 let t103 := wrapF .u64 t102
 let t104 := wrQ .u64 (addQ t99 t103)
 let t106 := wrQ .i64 (addQ t16 (Int.ofNat 1))
 S106_19 D m g16 t0 t104 t3 t4 t5 t6 t7 t8 t9 t10 t11 t12 t13 true t93 t106 t17 h) (
 let t108 := notQ (eqQ t65 (Int.ofNat 48))
 br t108 (
 S106_19 D m g16 t0 t2 t3 t4 true t6 t7 t8 t9 t10 t11 t12 t13 true t93 t16 t17 h) (
 S106_19 D m g16 t0 t2 t3 t4 t5 t6 t7 t8 t9 t10 t11 t12 t13 true t93 t16 t17 h)))) (
 let t111 := eqQ t10 (Int.ofNat 16)
 br t111 (
 cal D 73 [(vC t65)] h fun t114 h29 =>
 asI .u8 t114 fun t114a =>
 let t115 := leQ (Int.ofNat 97) t114a
 S106_20 D m g16 t0 t2 t3 t4 t5 t6 t7 t8 t9 t10 t11 t12 t13 t14 t15 t16 t17 t65 t115 h29) (
 S106_20 D m g16 t0 t2 t3 t4 t5 t6 t7 t8 t9 t10 t11 t12 t13 t14 t15 t16 t17 t65 false h))))) (
 S106_2 D m t0 t2 t3 t4 t5 t6 t7 t8 t9 t10 t12 t13 t14 t15 t16 t17 h)
def S106_16 (D : CallD) (m : Nat) : LN → Int → Int → Bool → Bool → Bool → Int → Bool → Bool → Int → Int → Int → Bool → Bool → Int → Int → Int → HP → Res2 := nrec (fun _ _ _ _ _ _ _ _ _ _ _ _ _ _ _ _ _ _ => none) (fun _ g => S106_16b D m g) m
def e106_1 (k t0 t2 t3 t4 t5 t6 t7 t8 t9 t10 t11 t12 h) := kN k [(p0, (vS t0)), (p2, (AV.int .u64 t2)), (p3, (vI t3)), (p4, (vB t4)), (p5, (vB t5)), (p6, (vB t6)), (p7, (vI t7)), (p8, (vB t8)), (p9, (vB t9)), (p10, (AV.int .u64 t10)), (p11, (vI t11)), (p12, (vC t12))] h
def S106_1 (D : CallD) (m : Nat) (t0 : LN) (t2 t3 : Int) (t4 t5 t6 : Bool) (t7 : Int) (t8 t9 : Bool) (t10 t11 t12 : Int) (h : HP) : Res2 :=
 S106_16 D m t0 t2 t3 t4 t5 t6 t7 t8 t9 t10 t11 t12 false false (Int.ofNat 0) (Int.ofNat 0) (Int.ofNat 0) h
def e106_24 (k t0 t2 t3 t4 t5 t6 t7 t8 t9 t10 t11 t12 t54 h) := kN k [(p0, (vS t0)), (p2, (AV.int .u64 t2)), (p3, (vI t3)), (p4, (vB t4)), (p5, (vB t5)), (p6, (vB t6)), (p7, (vI t7)), (p8, (vB t8)), (p9, (vB t9)), (p10, (AV.int .u64 t10)), (p11, (vI t11)), (p12, (vC t12)), (p54, (vB t54))] h
def S106_24 (D : CallD) (m : Nat) (t0 : LN) (t2 t3 : Int) (t4 t5 t6 : Bool) (t7 : Int) (t8 t9 : Bool) (t10 t11 t12 : Int) (t54 : Bool) (h : HP) : Res2 :=
 br t54 (
 let t56 := wrQ .i64 (addQ t7 (Int.ofNat 2))
 S106_1 D m t0 t2 t3 t4 t5 true t56 t8 t9 (Int.ofNat 16) (Int.ofNat 16) (Int.ofNat 112) h) (
 S106_1 D m t0 t2 t3 t4 t5 t6 t7 t8 t9 t10 t11 t12 h)
def e106_0 (k t0 t2 t3 t4 t5 t6 t7 t8 t9 h) := kN k [(p0, (vS t0)), (p2, (AV.int .u64 t2)), (p3, (vI t3)), (p4, (vB t4)), (p5, (vB t5)), (p6, (vB t6)), (p7, (vI t7)), (p8, (vB t8)), (p9, (vB t9))] h
def S106_0 (D : CallD) (m : Nat) (t0 : LN) (t2 t3 : Int) (t4 t5 t6 : Bool) (t7 : Int) (t8 t9 : Bool) (h : HP) : Res2 :=
 let t37 := wrQ .i64 (addQ t7 (Int.ofNat 2))
 let t39 := Int.ofNat (lenL t0)
 let t40 := ltQ t37 t39
 obB (brV t40 (
 ixCV (vS t0) (vI t7) fun vt44 => asIV .u8 vt44 fun t44 =>
 let t45 := eqQ t44 (Int.ofNat 48)
 some (vB t45)) (
 some (vB false))) fun t46 =>
 br t46 (
 let t50 := wrQ .i64 (addQ t7 (Int.ofNat 1))
 ixC (vS t0) (vI t50) fun vt51 => asI .u8 vt51 fun t51 =>
 cal D 73 [(vC t51)] h fun t52 h32 =>
 asI .u8 t52 fun t52a =>
 let t53 := eqQ t52a (Int.ofNat 120)
 S106_24 D m t0 t2 t3 t4 t5 t6 t7 t8 t9 (Int.ofNat 10) (Int.ofNat 19) (Int.ofNat 101) t53 h32) (
 S106_24 D m t0 t2 t3 t4 t5 t6 t7 t8 t9 (Int.ofNat 10) (Int.ofNat 19) (Int.ofNat 101) false h)
def e106_26 (k t0 h) := kN k [(p0, (vS t0))] h
def S106_26 (D : CallD) (m : Nat) (t0 : LN) (h : HP) : Res2 :=
 let t23 := Int.ofNat (lenL t0)
 let t24 := leQ t23 (Int.ofNat 0)
 br t24 (
 some (.ret (.tup [(AV.int .u64 (Int.ofNat 0)), (vI (Int.ofNat 0)), (vB false), (vB false), (vB false), (vI (Int.ofNat 0)), (vB false)]) h, .no)) (
 ixC (vS t0) (vI (Int.ofNat 0)) fun vt27 => asI .u8 vt27 fun t27 =>
 let t29 := eqQ t27 (Int.ofNat 43)
 br t29 (
 let t31 := wrQ .i64 (addQ (Int.ofNat 0) (Int.ofNat 1))
 S106_0 D m t0 (Int.ofNat 0) (Int.ofNat 0) false false false t31 false false h) (
 let t33 := eqQ t27 (Int.ofNat 45)
 br t33 (
 let t35 := wrQ .i64 (addQ (Int.ofNat 0) (Int.ofNat 1))
 S106_0 D m t0 (Int.ofNat 0) (Int.ofNat 0) true false false t35 false false h) (
 S106_0 D m t0 (Int.ofNat 0) (Int.ofNat 0) false false false (Int.ofNat 0) false false h)))
def S106 : SFn := fun D m args h u => nou u <| popS args fun t0 args => endA args (S106_26 D m t0 h)
theorem T106_7 (hE : FX x106 D m E) : S106_7 D m = e106_7 (E c106_7 []) := by unfold S106_7; rw [hE c106_7]; kernel_rfl
theorem T106_8 (hE : FX x106 D m E) : S106_8 D m = e106_8 (E (.opq false l106_8 c106_9) [.sj v106_7 c106_7]) := by unfold S106_8; rw [T106_7 hE, hE (.opq false l106_8 c106_9)]; kernel_rfl
theorem T106_6 (hE : FX x106 D m E) : S106_6 D m = e106_6 (E c106_6 []) := by unfold S106_6; rw [T106_8 hE, hE c106_6]; kernel_rfl
theorem T106_5 (hE : FX x106 D m E) : S106_5 D m = e106_5 (E c106_5 []) := by unfold S106_5; rw [T106_6 hE, hE c106_5]; kernel_rfl
theorem T106_12 (hE : FX x106 D m E) : S106_12 D m = e106_12 (E c106_12 [.sj v106_5 c106_5]) := by unfold S106_12; rw [T106_5 hE, hE c106_12]; kernel_rfl
theorem T106_14 (hE : FX x106 D m E) (G13) : S106_14 D m (e106_13 G13) = e106_14 (E c106_14 [.lp v106_13 G13, .blk 5, .sj v106_12 c106_12, .sj v106_5 c106_5]) := by unfold S106_14; rw [hE c106_14]; kernel_rfl
theorem T106_13b (hE : FX x106 D m E) (G13) : S106_13b D m (e106_13 G13) = e106_13 (E c106_13b [.lp v106_13 G13, .blk 5, .sj v106_12 c106_12, .sj v106_5 c106_5]) := by unfold S106_13b; rw [T106_14 hE G13, T106_12 hE, hE c106_13b]; kernel_rfl
theorem T106_13 (hE : FX x106 D m E) : S106_13 D m = e106_13 (nrec (fun _ => none) (fun _ G13 st => E c106_13b [.lp v106_13 G13, .blk 5, .sj v106_12 c106_12, .sj v106_5 c106_5] st) m) :=
  nrec_emb e106_13 (fun _ _ _ _ _ _ _ _ _ _ _ _ _ _ => none) (fun g => S106_13b D m g) (fun G13 st => E c106_13b [.lp v106_13 G13, .blk 5, .sj v106_12 c106_12, .sj v106_5 c106_5] st) rfl (fun g => T106_13b hE g) m
theorem T106_11 (hE : FX x106 D m E) : S106_11 D m = e106_11 (E c106_11 [.sj v106_5 c106_5]) := by unfold S106_11; rw [T106_13 hE, hE c106_11]; kernel_rfl
theorem T106_10 (hE : FX x106 D m E) : S106_10 D m = e106_10 (E (.opq false l106_10 c106_15) [.sj v106_5 c106_5]) := by unfold S106_10; rw [T106_11 hE, T106_5 hE, hE (.opq false l106_10 c106_15)]; kernel_rfl
theorem T106_4 (hE : FX x106 D m E) : S106_4 D m = e106_4 (E c106_4 []) := by unfold S106_4; rw [T106_10 hE, hE c106_4]; kernel_rfl
theorem T106_3 (hE : FX x106 D m E) : S106_3 D m = e106_3 (E c106_3 []) := by unfold S106_3; rw [T106_4 hE, hE c106_3]; kernel_rfl
theorem T106_2 (hE : FX x106 D m E) : S106_2 D m = e106_2 (E c106_2 []) := by unfold S106_2; rw [T106_3 hE, hE c106_2]; kernel_rfl
theorem T106_17 (hE : FX x106 D m E) (G16) : S106_17 D m (e106_16 G16) = e106_17 (E c106_17 [.lp v106_16 G16, .blk 1, .sj v106_2 c106_2]) := by unfold S106_17; rw [hE c106_17]; kernel_rfl
theorem T106_18 (hE : FX x106 D m E) (G16) : S106_18 D m (e106_16 G16) = e106_18 (E c106_18 [.blk 2, .sj v106_17 c106_17, .lp v106_16 G16, .blk 1, .sj v106_2 c106_2]) := by unfold S106_18; rw [T106_2 hE, hE c106_18]; kernel_rfl
theorem T106_19 (hE : FX x106 D m E) (G16) : S106_19 D m (e106_16 G16) = e106_19 (E c106_19 [.blk 3, .sj v106_18 c106_18, .blk 2, .sj v106_17 c106_17, .lp v106_16 G16, .blk 1, .sj v106_2 c106_2]) := by unfold S106_19; rw [T106_17 hE G16, hE c106_19]; kernel_rfl
theorem T106_22 (hE : FX x106 D m E) (G16) : S106_22 D m (e106_16 G16) = e106_22 (E c106_22 [.blk 3, .sj v106_18 c106_18, .blk 2, .sj v106_17 c106_17, .lp v106_16 G16, .blk 1, .sj v106_2 c106_2]) := by unfold S106_22; rw [T106_17 hE G16, hE c106_22]; kernel_rfl
theorem T106_21 (hE : FX x106 D m E) (G16) : S106_21 D m (e106_16 G16) = e106_21 (E (.opq false l106_21 c106_23) [.blk 3, .sj v106_18 c106_18, .blk 2, .sj v106_17 c106_17, .lp v106_16 G16, .blk 1, .sj v106_2 c106_2]) := by unfold S106_21; rw [T106_22 hE G16, T106_18 hE G16, hE (.opq false l106_21 c106_23)]; kernel_rfl
theorem T106_20 (hE : FX x106 D m E) (G16) : S106_20 D m (e106_16 G16) = e106_20 (E (.opq false l106_20 c106_23) [.blk 3, .sj v106_18 c106_18, .blk 2, .sj v106_17 c106_17, .lp v106_16 G16, .blk 1, .sj v106_2 c106_2]) := by unfold S106_20; rw [T106_21 hE G16, hE (.opq false l106_20 c106_23)]; kernel_rfl
theorem T106_16b (hE : FX x106 D m E) (G16) : S106_16b D m (e106_16 G16) = e106_16 (E c106_16b [.lp v106_16 G16, .blk 1, .sj v106_2 c106_2]) := by unfold S106_16b; rw [T106_17 hE G16, T106_2 hE, T106_19 hE G16, T106_20 hE G16, hE c106_16b]; kernel_rfl
theorem T106_16 (hE : FX x106 D m E) : S106_16 D m = e106_16 (nrec (fun _ => none) (fun _ G16 st => E c106_16b [.lp v106_16 G16, .blk 1, .sj v106_2 c106_2] st) m) :=
  nrec_emb e106_16 (fun _ _ _ _ _ _ _ _ _ _ _ _ _ _ _ _ _ _ => none) (fun g => S106_16b D m g) (fun G16 st => E c106_16b [.lp v106_16 G16, .blk 1, .sj v106_2 c106_2] st) rfl (fun g => T106_16b hE g) m
theorem T106_1 (hE : FX x106 D m E) : S106_1 D m = e106_1 (E c106_1 []) := by unfold S106_1; rw [T106_16 hE, hE c106_1]; kernel_rfl
theorem T106_24 (hE : FX x106 D m E) : S106_24 D m = e106_24 (E (.opq false l106_24 c106_25) [.sj v106_1 c106_1]) := by unfold S106_24; rw [T106_1 hE, hE (.opq false l106_24 c106_25)]; kernel_rfl
theorem T106_0 (hE : FX x106 D m E) : S106_0 D m = e106_0 (E c106_0 []) := by unfold S106_0; rw [T106_24 hE, hE c106_0]; kernel_rfl
theorem T106_26 (hE : FX x106 D m E) : S106_26 D m = e106_26 (E c106_e []) := by unfold S106_26; rw [T106_0 hE, hE c106_e]; kernel_rfl
theorem X106 : XTie S106 x106 := X_of fun D m E hE args h u => by unfold S106; rw [T106_26 hE]; kernel_rfl
/- 114 -/
def c114_e : XC := (.sO [.mv p2 (.c (.int .u64 (.ofNat 0))) (.i .u64)] (.seq (.seq (.oX [.mv p3 q0 .b]) (.cond q3 (.seq (.oX [.mv p2 (.c (.int .u64 (.ofNat 1))) (.i .u64)]) .ret) .skip)) (.sO [.mv p2 (.c (.int .u64 (.ofNat 0))) (.i .u64)] (.s .ret))))
def x114 : XFn := ⟨[.b], false, [(.tmp p2)], c114_e⟩
def e114_0 (k t0 h) := kN k [(p0, (vB t0))] h
def S114_0 (D : CallD) (m : Nat) (t0 : Bool) (h : HP) : Res2 :=
 br t0 (
 some (.ret (AV.int .u64 (Int.ofNat 1)) h, .no)) (
 some (.ret (AV.int .u64 (Int.ofNat 0)) h, .no))
def S114 : SFn := fun D m args h u => nou u <| popB args fun t0 args => endA args (S114_0 D m t0 h)
theorem T114_0 (hE : FX x114 D m E) : S114_0 D m = e114_0 (E c114_e []) := by unfold S114_0; rw [hE c114_e]; kernel_rfl
theorem X114 : XTie S114 x114 := X_of fun D m E hE args h u => by unfold S114; rw [T114_0 hE]; kernel_rfl
/- 116 -/
def v116_1 : List Pos := [p6, p7]
def c116_1 : XC := (.s .ret)
def v116_2 : List Pos := [p1, p6, p7]
def c116_2 : XC := (.seq (.seq (.oX [.mv p38 q6 .v, .bn p39 .gtr q38 (.c (.flt .f64 4831355200913801216)) .b, .mv p40 q39 .b, .ge p40 (XL.of [.G p40 false p41 (.mov q6) .v, .G p40 false p42 (.bin .lss q41 (.c (.flt .f64 14054727237768577024))) .b, .P p43 (.pick q40 (cb true) q42) .b]) p43 .b]) (.cond q43 .ret .skip)) (.sO [.mv p44 q6 .v, .ld p45 (.c (.ptr p14 0)) .v, .mv p46 q1 tI, .P p47 (.iaddr (.sl 1) q45 q46) .v, .ld p48 q47 .v, .bn p49 .mul q44 q48 .v, .mv p6 q49 .v, .mv p7 (cb true) .b] (.s .ret)))
def v116_0 : List Pos := [p1, p6, p7]
def c116_0 : XC := (.sj v116_1 (.block 0 (.sO [.mv p19 q1 tI, .bn p20 .eql q19 (ci 0) .b, .mv p18 q20 .b] (.cond q18 (.sO [.mv p21 q6 .v, .mv p6 q21 .v, .mv p7 (cb true) .b] (.s .ret)) (.sO [.mv p23 q1 tI, .bn p24 .gtr q23 (ci 0) .b, .mv p25 q24 .b, .ge p25 (XL.of [.G p25 true p26 (.mov q1) tI, .G p25 true p27 (.bin .leq q26 (ci 37)) .b, .P p28 (.pick q25 q27 (cb false)) .b]) p28 .b, .mv p22 q28 .b] (.cond q22 (.sj v116_2 (.sO [.mv p29 q1 tI, .bn p30 .gtr q29 (ci 22) .b] (.cond q30 (.sO [.mv p31 q6 .v, .ld p32 (.c (.ptr p14 0)) .v, .mv p33 q1 tI, .bn p34 .sub q33 (ci 22) tI, .P p35 (.iaddr (.sl 1) q32 q34) .v, .ld p36 q35 .v, .bn p37 .mul q31 q36 .v, .mv p6 q37 .v] (.s (.oX [.mv p1 (ci 22) tI]))) (.s .skip))) c116_2) (.sO [.mv p51 q1 tI, .bn p52 .lss q51 (ci 0) .b, .mv p53 q52 .b, .ge p53 (XL.of [.G p53 true p54 (.mov q1) tI, .G p53 true p55 (.bin .geq q54 (.c (.int .i64 (.negSucc 21)))) .b, .P p56 (.pick q53 q55 (cb false)) .b]) p56 .b, .mv p50 q56 .b] (.cond q50 (.sO [.mv p57 q6 .v, .ld p58 (.c (.ptr p14 0)) .v, .mv p59 q1 tI, .P p60 (.un .neg q59) tI, .P p61 (.iaddr (.sl 1) q58 q60) .v, .ld p62 q61 .v, .bn p63 .quo q57 q62 .v, .mv p6 q63 .v, .mv p7 (cb true) .b] (.s .ret)) (.s .skip)))))))) c116_1)
def c116_e : XC := (.sO [.mv p6 (.c (.flt .f64 0)) .v, .mv p7 (cb false) .b] (.seq (.seq (.oX [.mv p8 q0 (.i .u64), .fa p9 0 (.c (.ptr p7 0)), .ld p10 q9 (.i .u64), .bn p11 .shr q8 q10 (.i .u64), .bn p12 .neq q11 (.c (.int .u64 (.ofNat 0))) .b]) (.cond q12 .ret .skip)) (.sO [.mv p13 q0 (.i .u64), .P p14 (.conv (.jf .f64) q13) .v, .mv p6 q14 .v] (.sj v116_0 (.sO [.mv p15 q2 .b] (.cond q15 (.s (.oX [.mv p16 q6 .v, .P p17 (.un .neg q16) .v, .mv p6 q17 .v])) (.s .skip))) c116_0))))
def x116 : XFn := ⟨[(.i .u64), tI, .b], false, [(.tmp p6), (.tmp p7)], c116_e⟩
def e116_1 (k t6 t7 h) := kN k [(p6, t6), (p7, (vB t7))] h
def S116_1 (D : CallD) (m : Nat) (t6 : AV) (t7 : Bool) (h : HP) : Res2 :=
 some (.ret (.tup [t6, (vB t7)]) h, .no)
def e116_2 (k t1 t6 t7 h) := kN k [(p1, (vI t1)), (p6, t6), (p7, (vB t7))] h
def S116_2 (D : CallD) (m : Nat) (t1 : Int) (t6 : AV) (t7 : Bool) (h : HP) : Res2 :=
 binC .gtr t6 ((.flt .f64 4831355200913801216) : AV) fun vt39 => asB vt39 fun t39 =>
 obB (brV t39 (
 some (vB true)) (
 binCV .lss t6 ((.flt .f64 14054727237768577024) : AV) fun vt42 => asBV vt42 fun t42 =>
 some (vB t42))) fun t43 =>
 br t43 (
 some (.ret (.tup [t6, (vB t7)]) h, .no)) (
 cellC ((.ptr p14 0) : AV) h fun t45 =>
 iasC 1 t45 (vI t1) fun t47 =>
 cellC t47 h fun t48 =>
 binC .mul t6 t48 fun t49 =>
 some (.ret (.tup [t49, (vB true)]) h, .no))
def e116_0 (k t1 t6 t7 h) := kN k [(p1, (vI t1)), (p6, t6), (p7, (vB t7))] h
def S116_0 (D : CallD) (m : Nat) (t1 : Int) (t6 : AV) (t7 : Bool) (h : HP) : Res2 :=
 let t20 := eqQ t1 (Int.ofNat 0)
 br t20 (
 some (.ret (.tup [t6, (vB true)]) h, .no)) (
 let t24 := ltQ (Int.ofNat 0) t1
 obB (brV t24 (
 let t27 := leQ t1 (Int.ofNat 37)
 some (vB t27)) (
 some (vB false))) fun t28 =>
 br t28 (
 let t30 := ltQ (Int.ofNat 22) t1
 br t30 (
 cellC ((.ptr p14 0) : AV) h fun t32 =>
 let t34 := wrQ .i64 (t1 - (Int.ofNat 22))
 iasC 1 t32 (vI t34) fun t35 =>
 cellC t35 h fun t36 =>
 binC .mul t6 t36 fun t37 =>
 S116_2 D m (Int.ofNat 22) t37 t7 h) (
 S116_2 D m t1 t6 t7 h)) (
 let t52 := ltQ t1 (Int.ofNat 0)
 obB (brV t52 (
 let t55 := leQ (Int.negSucc 21) t1
 some (vB t55)) (
 some (vB false))) fun t56 =>
 br t56 (
 cellC ((.ptr p14 0) : AV) h fun t58 =>
 let t60 := IntKind.wrap .i64 (0 - t1)
 iasC 1 t58 (vI t60) fun t61 =>
 cellC t61 h fun t62 =>
 binC .quo t6 t62 fun t63 =>
 some (.ret (.tup [t63, (vB true)]) h, .no)) (
 S116_1 D m t6 t7 h)))
def e116_3 (k t0 t1 t2 h) := kN k [(p0, (AV.int .u64 t0)), (p1, (vI t1)), (p2, (vB t2))] h
def S116_3 (D : CallD) (m : Nat) (t0 t1 : Int) (t2 : Bool) (h : HP) : Res2 :=
 faC 0 ((.ptr p7 0) : AV) fun t9 =>
 cellC t9 h fun vt10 => asI .u64 vt10 fun t10 =>
 obI .u64 (shiftF .shr .u64 t0 t10) fun t11 =>
 let t12 := notQ (eqQ t11 (Int.ofNat 0))
 br t12 (
 some (.ret (.tup [((.flt .f64 0) : AV), (vB false)]) h, .no)) (
 let t14 := AV.flt .f64 (FloatKind.nearest .f64 t0)
 br t2 (
 obQ (evP (.un .neg (.c t14)) .leaf) fun t17 =>
 S116_0 D m t1 t17 false h) (
 S116_0 D m t1 t14 false h))
def S116 : SFn := fun D m args h u => nou u <| popI .u64 args fun t0 args => popI .i64 args fun t1 args => popB args fun t2 args => endA args (S116_3 D m t0 t1 t2 h)
theorem T116_1 (hE : FX x116 D m E) : S116_1 D m = e116_1 (E c116_1 []) := by unfold S116_1; rw [hE c116_1]; kernel_rfl
theorem T116_2 (hE : FX x116 D m E) : S116_2 D m = e116_2 (E c116_2 [.blk 0, .sj v116_1 c116_1]) := by unfold S116_2; rw [hE c116_2]; kernel_rfl
theorem T116_0 (hE : FX x116 D m E) : S116_0 D m = e116_0 (E c116_0 []) := by unfold S116_0; rw [T116_2 hE, T116_1 hE, hE c116_0]; kernel_rfl
theorem T116_3 (hE : FX x116 D m E) : S116_3 D m = e116_3 (E c116_e []) := by unfold S116_3; rw [T116_0 hE, hE c116_e]; kernel_rfl
theorem X116 : XTie S116 x116 := X_of fun D m E hE args h u => by unfold S116; rw [T116_3 hE]; kernel_rfl
/- 123 -/
def v123_0 : List Pos := [p5]
def c123_0 : XC := (.sO [.mv p35 q5 tI, .mv p4 q35 tI] (.s .ret))
def v123_2 : List Pos := [p0, p1, p5, p6]
def c123_2 : XC := (.s (.oX [.mv p16 q6 tI, .bn p17 .add q16 (ci 1) tI, .mv p6 q17 tI]))
def v123_3 : List Pos := [p0, p1, p5, p6, p7]
def c123_3 : XC := (.sO [.mv p29 q7 tC, .mv p30 q1 .s, .mv p31 q6 tI, .P p32 (.idxs q30 q31) tC, .bn p33 .neq q29 q32 .b] (.cond q33 (.sO [.mv p34 q6 tI, .mv p4 q34 tI] (.s .ret)) (.s .skip)))
def v123_1 : List Pos := [p0, p1, p5, p6]
def c123_1b : XC := (.seq (.seq (.oX [.mv p13 q6 tI, .mv p14 q5 tI, .bn p15 .lss q13 q14 .b]) (.cond q15 .skip (.exit 0))) (.sj v123_2 (.block 1 (.sO [.mv p18 q0 .s, .mv p19 q6 tI, .P p20 (.idxs q18 q19) tC, .mv p7 q20 tC] (.sj v123_3 (.sO [.mv p21 q7 tC, .bn p22 .leq (.c (.int .u8 (.ofNat 65))) q21 .b, .mv p23 q22 .b, .ge p23 (XL.of [.G p23 true p24 (.mov q7) tC, .G p23 true p25 (.bin .leq q24 (.c (.int .u8 (.ofNat 90)))) .b, .P p26 (.pick q23 q25 (cb false)) .b]) p26 .b] (.cond q26 (.s (.oX [.mv p27 q7 tC, .bn p28 .add q27 (.c (.int .u8 (.ofNat 32))) tC, .mv p7 q28 tC])) (.s .skip))) c123_3))) c123_2))
def c123_e : XC := (.sO [.mv p4 (ci 0) tI] (.sO [.mv p8 q1 .s, .P p9 (.lens q8) tI, .mv p10 q0 .s, .P p11 (.lens q10) tI, .P p12 (.mm false [q9, q11]) tI, .mv p5 q12 tI] (.sj v123_0 (.sO [.mv p6 (ci 0) tI] (.block 0 (.loop v123_1 c123_1b))) c123_0)))
def x123 : XFn := ⟨[.s, .s], false, [(.tmp p4)], c123_e⟩
def e123_0 (k t5 h) := kN k [(p5, (vI t5))] h
def S123_0 (D : CallD) (m : Nat) (t5 : Int) (h : HP) : Res2 :=
 some (.ret (vI t5) h, .no)
def e123_2 (k t0 t1 t5 t6 h) := kN k [(p0, (vS t0)), (p1, (vS t1)), (p5, (vI t5)), (p6, (vI t6))] h
def S123_2 (D : CallD) (m : Nat) (g1 : LN → LN → Int → Int → HP → Res2) (t0 t1 : LN) (t5 t6 : Int) (h : HP) : Res2 :=
 let t17 := wrQ .i64 (addQ t6 (Int.ofNat 1))
 g1 t0 t1 t5 t17 h
def e123_3 (k t0 t1 t5 t6 t7 h) := kN k [(p0, (vS t0)), (p1, (vS t1)), (p5, (vI t5)), (p6, (vI t6)), (p7, (vC t7))] h
def S123_3 (D : CallD) (m : Nat) (g1 : LN → LN → Int → Int → HP → Res2) (t0 t1 : LN) (t5 t6 t7 : Int) (h : HP) : Res2 :=
 ixC (vS t1) (vI t6) fun vt32 => asI .u8 vt32 fun t32 =>
 let t33 := notQ (eqQ t7 t32)
 br t33 (
 some (.ret (vI t6) h, .no)) (
 S123_2 D m g1 t0 t1 t5 t6 h)
def e123_1 (k t0 t1 t5 t6 h) := kN k [(p0, (vS t0)), (p1, (vS t1)), (p5, (vI t5)), (p6, (vI t6))] h
def S123_1b (D : CallD) (m : Nat) (g1 : LN → LN → Int → Int → HP → Res2) (t0 t1 : LN) (t5 t6 : Int) (h : HP) : Res2 :=
 let t15 := ltQ t6 t5
 br t15 (
 ixC (vS t0) (vI t6) fun vt20 => asI .u8 vt20 fun t20 =>
 let t22 := leQ (Int.ofNat 65) t20
 obB (brV t22 (
 let t25 := leQ t20 (Int.ofNat 90)
 some (vB t25)) (
 some (vB false))) fun t26 =>
 br t26 (
 let t28 := wrQ .u8 (addQ t20 (Int.ofNat 32))
 S123_3 D m g1 t0 t1 t5 t6 t28 h) (
 S123_3 D m g1 t0 t1 t5 t6 t20 h)) (
 S123_0 D m t5 h)
def S123_1 (D : CallD) (m : Nat) : LN → LN → Int → Int → HP → Res2 := nrec (fun _ _ _ _ _ => none) (fun _ g => S123_1b D m g) m
def e123_4 (k t0 t1 h) := kN k [(p0, (vS t0)), (p1, (vS t1))] h
def S123_4 (D : CallD) (m : Nat) (t0 t1 : LN) (h : HP) : Res2 :=
 let t9 := Int.ofNat (lenL t1)
 let t11 := Int.ofNat (lenL t0)
 let t12 := mmI false t9 t11
 S123_1 D m t0 t1 t12 (Int.ofNat 0) h
def S123 : SFn := fun D m args h u => nou u <| popS args fun t0 args => popS args fun t1 args => endA args (S123_4 D m t0 t1 h)
theorem T123_0 (hE : FX x123 D m E) : S123_0 D m = e123_0 (E c123_0 []) := by unfold S123_0; rw [hE c123_0]; kernel_rfl
theorem T123_2 (hE : FX x123 D m E) (G1) : S123_2 D m (e123_1 G1) = e123_2 (E c123_2 [.lp v123_1 G1, .blk 0, .sj v123_0 c123_0]) := by unfold S123_2; rw [hE c123_2]; kernel_rfl
theorem T123_3 (hE : FX x123 D m E) (G1) : S123_3 D m (e123_1 G1) = e123_3 (E c123_3 [.blk 1, .sj v123_2 c123_2, .lp v123_1 G1, .blk 0, .sj v123_0 c123_0]) := by unfold S123_3; rw [T123_2 hE G1, hE c123_3]; kernel_rfl
theorem T123_1b (hE : FX x123 D m E) (G1) : S123_1b D m (e123_1 G1) = e123_1 (E c123_1b [.lp v123_1 G1, .blk 0, .sj v123_0 c123_0]) := by unfold S123_1b; rw [T123_3 hE G1, T123_0 hE, hE c123_1b]; kernel_rfl
theorem T123_1 (hE : FX x123 D m E) : S123_1 D m = e123_1 (nrec (fun _ => none) (fun _ G1 st => E c123_1b [.lp v123_1 G1, .blk 0, .sj v123_0 c123_0] st) m) :=
  nrec_emb e123_1 (fun _ _ _ _ _ => none) (fun g => S123_1b D m g) (fun G1 st => E c123_1b [.lp v123_1 G1, .blk 0, .sj v123_0 c123_0] st) rfl (fun g => T123_1b hE g) m
theorem T123_4 (hE : FX x123 D m E) : S123_4 D m = e123_4 (E c123_e []) := by unfold S123_4; rw [T123_1 hE, hE c123_e]; kernel_rfl
theorem X123 : XTie S123 x123 := X_of fun D m E hE args h u => by unfold S123; rw [T123_4 hE]; kernel_rfl
end
end Go.Proofs.YtmoabbfdehaenaaGreatDoor.Sx
