/- The program's word operations are the document's, at words of 32 bits. -/
import Derived.Test.YtakcpnpeadkfpaaGreatDoorAr
set_option linter.unusedVariables false
set_option linter.unusedSimpArgs false
namespace Go.Proofs.YtakcpnpeadkfpaaGreatDoor.Sx
open Go Go.Proofs.YtakcpnpeadkfpaaGreatDoor.Ev
set_option linter.unusedSectionVars false
noncomputable section
variable [Rho]
theorem h32 : eqF (Int.ofNat 32) 0 = false := rfl
theorem hm {b : Nat} : convV (.ii .i64) (vW (Int.tmod (Int.ofNat b) (Int.ofNat 32))) = some (.int .i64 (wrapF .i64 (Int.tmod (Int.ofNat b) (Int.ofNat 32)))) := convV_u (tk_tmod (tk_nat b) 32)
theorem hr {b : Nat} {f : AV → Res2} : binC .rem (vW (Int.ofNat b)) (vW (Int.ofNat 32)) f = f (vW (Int.tmod (Int.ofNat b) (Int.ofNat 32))) := bc_rem (tk_nat b) (tk_nat 32) h32
theorem eqQ_nd (a b : Nat) : eqQ (Int.ofNat a) (Int.ofNat b) = decide (a = b) := by rw [eqQ_dec]; exact decide_eq_decide.2 ⟨fun h => Int.ofNat.inj h, fun h => by rw [h]⟩
theorem brT (x y : Res2) : Go.Proofs.YtakcpnpeadkfpaaGreatDoor.Ev.br true x y = x := id rfl
theorem brF (x y : Res2) : Go.Proofs.YtakcpnpeadkfpaaGreatDoor.Ev.br false x y = y := id rfl
section
variable {D : CallD} {m : Nat}
/- What the document's operations answer. -/
theorem doR_of {op a b : Nat} {v : Int} {c : Bool} (h : S43_3 (SF tabS 59) 59 (Int.ofNat op) (Int.ofNat a) (Int.ofNat b) ⟨.h, .leaf⟩ = some (.ret (.tup [vW v, vB c]) ⟨.h, .leaf⟩, .no)) : doW op a b = v := by
 show resW (S43_3 (SF tabS 59) 59 (Int.ofNat op) (Int.ofNat a) (Int.ofNat b) ⟨.h, .leaf⟩) = v
 rw [h]; rfl
theorem key32 (b : Nat) : wrapF .i64 (Int.tmod (Int.ofNat b) (Int.ofNat 32)) = Int.ofNat (b % 32) := wrapF_nat (n := b % 32) (by show b % 32 ≤ 9223372036854775807; omega)
theorem sub32 (b : Nat) : wrQ .i64 (Int.ofNat 32 - Int.ofNat (b % 32)) = Int.ofNat (32 - b % 32) := by
 rw [show Int.ofNat 32 - Int.ofNat (b % 32) = Int.ofNat (32 - b % 32) from by simp; omega]
 exact wrQ_nat (by show _ ≤ 9223372036854775807; omega)
theorem hW : Wd (SF tabS 59) := wd 58 (by omega)
theorem doW_1 (a b : Nat) : doW 1 a b = ofw (wrQ .i64 (addQ (wrapF .i64 (Int.ofNat a)) (wrapF .i64 (Int.ofNat b)))) := by
 apply doR_of (c := true); unfold S43_3; simp only [eqQ_nd, Nat.reduceEqDiff, decide_true, decide_false, brT, brF, hr, hm, cvN, obI_i, asI_vW, hW.sgN, asI_vI]; exact hW.of _ _ _
theorem doW_2 (a b : Nat) : doW 2 a b = ofw (wrQ .i64 (wrapF .i64 (Int.ofNat a) - wrapF .i64 (Int.ofNat b))) := by
 apply doR_of (c := true); unfold S43_3; simp only [eqQ_nd, Nat.reduceEqDiff, decide_true, decide_false, brT, brF, hr, hm, cvN, obI_i, asI_vW, hW.sgN, asI_vI]; exact hW.of _ _ _
theorem doW_3 (a b : Nat) : doW 3 a b = ofw (wrQ .i64 (Int.tmod (wrapF .i64 (Int.ofNat a)) (Int.ofNat (2 ^ (32 - b % 32))) * Int.ofNat (2 ^ (b % 32)))) := by
 have h1 := fun h kr => hW.pw (b % 32) h kr (by omega)
 have h2 := fun h kr => hW.pw (32 - b % 32) h kr (by omega)
 apply doR_of (c := true); unfold S43_3
 simp only [eqQ_nd, Nat.reduceEqDiff, decide_true, decide_false, brT, brF, hr, hm, cvN, obI_i, asI_vW, hW.sgN, asI_vI, key32, sub32, h1, h2, rem_some (pow_ne _), obI_i]
 exact hW.of _ _ _
theorem doW_b (how op : Nat) (h : (op = 6 ∧ how = 1) ∨ (op = 9 ∧ how = 2) ∨ (op = 10 ∧ how = 3)) (a b : Nat) : doW op a b = btw (Int.ofNat how) (Int.ofNat a) (Int.ofNat b) 32 0 (Int.ofNat 0) := by
 rcases h with ⟨rfl, rfl⟩ | ⟨rfl, rfl⟩ | ⟨rfl, rfl⟩ <;>
  (apply doR_of (c := true); unfold S43_3 S43_1; simp only [eqQ_nd, Nat.reduceEqDiff, decide_true, decide_false, brT, brF, hr, hm, cvN, obI_i, asI_vW, hW.sgN, asI_vI, obB_brV, obB_some]; exact hW.btN _ _ _ _ _)
theorem doW_8 (a b : Nat) : doW 8 a b = ofw (flr (sgn (Int.ofNat a)) (Int.ofNat (2 ^ (b % 32)))) := by
 have h1 := fun h kr => hW.pw (b % 32) h kr (by omega)
 have h2 := fun x h kr => hW.fl x (Int.ofNat (2 ^ (b % 32))) h kr (pow_ne _)
 apply doR_of (c := true); unfold S43_3 S43_1
 simp only [eqQ_nd, Nat.reduceEqDiff, decide_true, decide_false, brT, brF, hr, hm, cvN, obI_i, asI_vW, hW.sgN, asI_vI, key32, obB_brV, obB_some, h1, h2]
 exact hW.of _ _ _
theorem doW_11 (a b : Nat) : doW 11 a b = ofw (wrQ .i64 (addQ (wrQ .i64 (Int.tmod (wrapF .i64 (Int.ofNat a)) (Int.ofNat 65536) * wrapF .i64 (Int.ofNat b))) (wrQ .i64 (wrQ .i64 (wrapF .i64 (Int.tdiv (wrapF .i64 (Int.ofNat a)) (Int.ofNat 65536)) * Int.tmod (wrapF .i64 (Int.ofNat b)) (Int.ofNat 65536)) * Int.ofNat 65536)))) := by
 apply doR_of (c := true); unfold S43_3 S43_1
 simp only [eqQ_nd, Nat.reduceEqDiff, decide_true, decide_false, brT, brF, hr, hm, cvN, obI_i, asI_vW, hW.sgN, asI_vI, obB_brV, obB_some]
 exact hW.of _ _ _
theorem hV : Wd (SF tabS 58) := wd 57 (by omega)
/-- A quotient. -/
theorem doW_14 (a b : Nat) : doW 14 a b = Bool.rec (ofw (wrapF .i64 (Int.tdiv (sgn (Int.ofNat a)) (sgn (Int.ofNat b))))) (Int.ofNat 4294967295) (eqQ (sgn (Int.ofNat b)) (Int.ofNat 0)) := by
 have h33 : ∀ h kr, cal (SF tabS 59) 67 [vI (Int.ofNat 14), vW (Int.ofNat a), vW (Int.ofNat b)] h kr = kr (.tup [vW (Bool.rec (ofw (wrapF .i64 (Int.tdiv (sgn (Int.ofNat a)) (sgn (Int.ofNat b))))) (Int.ofNat 4294967295) (eqQ (sgn (Int.ofNat b)) (Int.ofNat 0))), vB true]) h := by
  intro h kr
  apply cal_of
  show S67_4 (SF tabS 58) 58 (Int.ofNat 14) (Int.ofNat a) (Int.ofNat b) h = _
  unfold S67_4 S67_0 S67_2
  simp only [eqQ_nd, Nat.reduceEqDiff, decide_true, decide_false, brT, brF, cvN, obI_i, asI_vW, hV.sgN, asI_vI, obB_brV, obB_some]
  show Go.Proofs.YtakcpnpeadkfpaaGreatDoor.Ev.br (eqQ (sgn (Int.ofNat b)) (Int.ofNat 0)) _ _ = _
  cases hc : eqQ (sgn (Int.ofNat b)) (Int.ofNat 0) with
  | true => rfl
  | false =>
   rw [quo_some (eqQ_0 hc)]
   exact hV.of _ _ _
 apply doR_of (c := true); unfold S43_3 S43_1 S43_0
 simp only [eqQ_nd, Nat.reduceEqDiff, decide_true, decide_false, brT, brF, hr, hm, cvN, obI_i, asI_vW, hW.sgN, asI_vI, obB_brV, obB_some, h33]
 rfl
/-- What is left. -/
theorem doW_16 (a b : Nat) : doW 16 a b = Bool.rec (ofw (Int.tmod (sgn (Int.ofNat a)) (sgn (Int.ofNat b)))) (Int.ofNat a) (eqQ (sgn (Int.ofNat b)) (Int.ofNat 0)) := by
 have h33 : ∀ h kr, cal (SF tabS 59) 67 [vI (Int.ofNat 16), vW (Int.ofNat a), vW (Int.ofNat b)] h kr = kr (.tup [vW (Bool.rec (ofw (Int.tmod (sgn (Int.ofNat a)) (sgn (Int.ofNat b)))) (Int.ofNat a) (eqQ (sgn (Int.ofNat b)) (Int.ofNat 0))), vB true]) h := by
  intro h kr
  apply cal_of
  show S67_4 (SF tabS 58) 58 (Int.ofNat 16) (Int.ofNat a) (Int.ofNat b) h = _
  unfold S67_4 S67_0 S67_2 S67_3
  simp only [eqQ_nd, Nat.reduceEqDiff, decide_true, decide_false, brT, brF, cvN, obI_i, asI_vW, hV.sgN, asI_vI, obB_brV, obB_some]
  show Go.Proofs.YtakcpnpeadkfpaaGreatDoor.Ev.br (eqQ (sgn (Int.ofNat b)) (Int.ofNat 0)) _ _ = _
  cases hc : eqQ (sgn (Int.ofNat b)) (Int.ofNat 0) with
  | true => rfl
  | false =>
   rw [rem_some (eqQ_0 hc)]
   exact hV.of _ _ _
 apply doR_of (c := true); unfold S43_3 S43_1 S43_0
 simp only [eqQ_nd, Nat.reduceEqDiff, decide_true, decide_false, brT, brF, hr, hm, cvN, obI_i, asI_vW, hW.sgN, asI_vI, obB_brV, obB_some, h33]
 rfl
end
end
end Go.Proofs.YtakcpnpeadkfpaaGreatDoor.Sx
