/- CheckOperators: only the remainders matter; a run at three of them: what the arguments were lies in memory and is read no more. -/
import Derived.Test.YtnpadfengpoehaaGreatDoorGu
set_option linter.unusedVariables false
set_option linter.unusedSimpArgs false
set_option linter.unusedSectionVars false
namespace Go.Proofs.YtnpadfengpoehaaGreatDoor.Sx
open Go Go.Proofs.YtnpadfengpoehaaGreatDoor.Ev
noncomputable section
def restO (D : CallD) (m : Nat) (t5 t6 : AV) (t19 t22 t25 : Int) (h9 : HP) : Res2 :=
 iarC 4 1 t6 (vC t22) fun t28 =>
 ldS t28 h9 fun t29 =>
 obS (strBin .add ([105, 110, 116, 32, 105, 59, 32, 100, 111, 117, 98, 108, 101, 32, 100, 59, 32, 105, 110, 116, 32, 42, 112, 59, 32, 100, 111, 117, 98, 108, 101, 32, 42, 113, 59, 32, 105, 110, 116, 32, 102, 40, 41, 32, 123, 32] : LN) t29) fun t30 =>
 obS (strBin .add t30 ([32] : LN)) fun t31 =>
 iarC 18 1 t5 (vC t19) fun t33 =>
 ldS t33 h9 fun t34 =>
 obS (strBin .add t31 t34) fun t35 =>
 obS (strBin .add t35 ([32] : LN)) fun t36 =>
 iarC 4 1 t6 (vC t25) fun t38 =>
 ldS t38 h9 fun t39 =>
 obS (strBin .add t36 t39) fun t40 =>
 obS (strBin .add t40 ([59, 32, 114, 101, 116, 117, 114, 110, 32, 48, 59, 32, 125] : LN)) fun t41 =>
 let t10 := AV.ptr (HP.nxQ h9) 0
 let h10 := HP.newQ h9 (.cells true [.nils])
 cal D 10 [(vS t41)] h10 fun t42 h11 =>
 extC t42 0 fun t43 =>
 extC t42 1 fun vt44 => asI .i64 vt44 fun t44 =>
 extC t42 2 fun vt45 => asI .i64 vt45 fun t45 =>
 stsC 1 t10 t43 h11 fun h12 =>
 let t47 := eqQ t22 (Int.ofNat 0)
 obB (brV t47 (
 let t50 := eqQ t25 (Int.ofNat 0)
 some (vB t50)) (
 some (vB false))) fun t51 =>
 let t53 := leQ (Int.ofNat 8) t19
 br t53 (
 obB (brV t51 (
 some (vB true)) (
 let t57 := eqQ t22 (Int.ofNat 1)
 obBV (brV t57 (
 let t60 := eqQ t25 (Int.ofNat 1)
 some (vB t60)) (
 some (vB false))) fun t61 =>
 some (vB t61))) fun t62 =>
 S6_0 D m t19 t22 t25 t45 t62 h12) (
 S6_0 D m t19 t22 t25 t45 t51 h12)
def h4O (m : Int) (y z : Nat) : HP := HP.newQ (gH m) (.cells true [.int .u8 (.ofNat y), .int .u8 (.ofNat z)])
def h6O (m : Int) (y z : Nat) : HP := HP.newQ (h4O m y z) (.cells true [(vS ([124, 124] : LN)), (vS ([38, 38] : LN)), (vS ([124] : LN)), (vS ([94] : LN)), (vS ([38] : LN)), (vS ([37] : LN)), (vS ([60, 60] : LN)), (vS ([62, 62] : LN)), (vS ([60] : LN)), (vS ([60, 61] : LN)), (vS ([62] : LN)), (vS ([62, 61] : LN)), (vS ([42] : LN)), (vS ([47] : LN)), (vS ([43] : LN)), (vS ([45] : LN)), (vS ([61, 61] : LN)), (vS ([33, 61] : LN))])
def h8O (m : Int) (y z : Nat) : HP := HP.newQ (h6O m y z) (.cells true [(vS ([105] : LN)), (vS ([100] : LN)), (vS ([112] : LN)), (vS ([113] : LN))])
def oO (m : Int) (y z a b c : Nat) : Bool := isTrue (restO (SF tabA 999) 999 (AV.ptr (HP.nxQ (h4O m y z)) 0) (AV.ptr (HP.nxQ (h6O m y z)) 0) (Int.ofNat a) (Int.ofNat b) (Int.ofNat c) (h8O m y z))
theorem enterO (m : Int) (x y z : Nat) : SF tabA 1000 6 [.int .u8 (.ofNat x), .agg [.int .u8 (.ofNat y), .int .u8 (.ofNat z)]] (gH m) .no = restO (SF tabA 999) 999 (AV.ptr (HP.nxQ (h4O m y z)) 0) (AV.ptr (HP.nxQ (h6O m y z)) 0) (Int.ofNat (x % 18)) (Int.ofNat (y % 4)) (Int.ofNat (z % 4)) (h8O m y z) := by kernel_rfl
end
end Go.Proofs.YtnpadfengpoehaaGreatDoor.Sx
