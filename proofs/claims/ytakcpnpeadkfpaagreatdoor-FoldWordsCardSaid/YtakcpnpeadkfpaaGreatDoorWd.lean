/- The program's word operations, as a function that always answers at words of 32 bits. -/
import Derived.Test.YtakcpnpeadkfpaaGreatDoorWx
set_option linter.unusedVariables false
set_option linter.unusedSimpArgs false
namespace Go.Proofs.YtakcpnpeadkfpaaGreatDoor.Sx
open Go Go.Proofs.YtakcpnpeadkfpaaGreatDoor.Ev
set_option linter.unusedSectionVars false
noncomputable section
variable [Rho]
theorem wU {a : Nat} (h : a < 4294967296) : wrapF .u64 (Int.ofNat a) = Int.ofNat a := wrapF_nat (n := a) (by show a ≤ 18446744073709551615; omega)
/-- What word.Do answers. -/
def WdOk (f : Int → Int → Int → HP → Res2) (op a b : Nat) : Prop := ∀ h, f (Int.ofNat op) (Int.ofNat a) (Int.ofNat b) h = some (.ret (.tup [vW (doW op a b), vI (Int.ofNat 0)]) h, .no)
section
variable {D : CallD} {m : Nat} {a b : Nat}
theorem baN (a b : Nat) (f : AV → Res2) : binC .add (vW (Int.ofNat a)) (vW (Int.ofNat b)) f = f (vW (wrQ .u32 (addQ (Int.ofNat a) (Int.ofNat b)))) := bc_add (tk_nat a) (tk_nat b)
theorem bsN (a b : Nat) (f : AV → Res2) : binC .sub (vW (Int.ofNat a)) (vW (Int.ofNat b)) f = f (vW (wrQ .u32 (Int.ofNat a - Int.ofNat b))) := bc_sub (tk_nat a) (tk_nat b)
theorem bandN (a b : Nat) (f : AV → Res2) : binC .and (vW (Int.ofNat a)) (vW (Int.ofNat b)) f = f (vW (wrapF .u32 (Int.ofNat (Nat.land a b)))) := by rw [binC_eq]; rfl
theorem borN (a b : Nat) (f : AV → Res2) : binC .or (vW (Int.ofNat a)) (vW (Int.ofNat b)) f = f (vW (wrapF .u32 (Int.ofNat (Nat.lor a b)))) := by rw [binC_eq]; rfl
theorem bxorN (a b : Nat) (f : AV → Res2) : binC .xor (vW (Int.ofNat a)) (vW (Int.ofNat b)) f = f (vW (wrapF .u32 (Int.ofNat (Nat.xor a b)))) := by rw [binC_eq]; rfl
theorem beN (a b : Nat) (f : AV → Res2) : binC .eql (vW (Int.ofNat a)) (vW (Int.ofNat b)) f = f (vB (eqQ (Int.ofNat a) (Int.ofNat b))) := bc_eql (tk_nat a) (tk_nat b)
theorem obI_k (k : IntKind) (n : Int) (f : Int → Res2) : obI k (some (.int k n)) f = f n := by cases k <;> rfl
theorem b31 (b : Nat) : wrapF .u32 (Int.ofNat (Nat.land b 31)) = Int.ofNat (b % 32) := by
 rw [and31, wrapF_nat (by show b % 32 ≤ 4294967295; omega)]
theorem w1 (ha : a < 4294967296) (hb : b < 4294967296) : WdOk (S11_0 D m) 1 a b := fun h => by
 rw [← c1 ha hb]; unfold S11_0; simp only [cvN, obI_k, baN, asI_vW]; rfl
theorem w2 (ha : a < 4294967296) (hb : b < 4294967296) : WdOk (S11_0 D m) 2 a b := fun h => by
 rw [← c2 ha hb]; unfold S11_0; simp only [cvN, obI_k, bsN, asI_vW]; rfl
theorem w3 (ha : a < 4294967296) : WdOk (S11_0 D m) 3 a b := fun h => by
 rw [← c3 ha]; unfold S11_0; simp only [cvN, obI_k, bandN, asI_vW, b31]; rfl
theorem w8 (ha : a < 4294967296) : WdOk (S11_0 D m) 8 a b := fun h => by
 rw [← c8 ha]; unfold S11_0; simp only [cvN, obI_k, bandN, asI_vW, b31]; rfl
theorem w6 (ha : a < 4294967296) (hb : b < 4294967296) : WdOk (S11_0 D m) 6 a b := fun h => by
 rw [← cb 1 6 (by omega) ha hb]; unfold S11_0; simp only [cvN, obI_k, bxorN, asI_vW]; rfl
theorem w9 (ha : a < 4294967296) (hb : b < 4294967296) : WdOk (S11_0 D m) 9 a b := fun h => by
 rw [← cb 2 9 (by omega) ha hb]; unfold S11_0; simp only [cvN, obI_k, borN, asI_vW]; rfl
theorem w10 (ha : a < 4294967296) (hb : b < 4294967296) : WdOk (S11_0 D m) 10 a b := fun h => by
 rw [← cb 3 10 (by omega) ha hb]; unfold S11_0; simp only [cvN, obI_k, bandN, asI_vW]; rfl
def hiW (a b : Int) : Int := wrapF .u32 (shrF .u64 (wrQ .u64 (wrapF .u64 a * wrapF .u64 b)) 32)
def loW (a b : Int) : Int := wrapF .u32 (wrQ .u64 (wrapF .u64 a * wrapF .u64 b))
def Ml (D : CallD) : Prop := ∀ (a b : Nat) h (kr : AV → HP → Res2), cal D 44 [vW (Int.ofNat a), vW (Int.ofNat b)] h kr = kr (.tup [vW (hiW (Int.ofNat a) (Int.ofNat b)), vW (loW (Int.ofNat a) (Int.ofNat b))]) h
theorem eqF_i32 (hb : b < 4294967296) (hb0 : b ≠ 0) : eqF (wrapF .i32 (Int.ofNat b)) 0 = false := by
 rw [← sgn_i32 b hb, eqF_eq, beq_eq_false_iff_ne, sgn_eq b hb]; split <;> omega
theorem m11 (hm : Ml D) (ha : a < 4294967296) (hb : b < 4294967296) : WdOk (S26_4 D m) 11 a b := fun h => by
 rw [← c11 ha hb]
 unfold S26_4
 simp only [cvN, obI_k, beN, asB_vB, hm _ _ _ _]
 show some (Fin.ret (.tup [vW (loW (Int.ofNat a) (Int.ofNat b)), vI (Int.ofNat 0)]) h, AMode.no) = _
 unfold loW; rw [wU ha, wU hb]
theorem m14 (hm : Ml D) (ha : a < 4294967296) (hb : b < 4294967296) : WdOk (S26_4 D m) 14 a b := fun h => by
 unfold S26_4
 simp only [cvN, obI_k, beN, asB_vB, hm _ _ _ _]
 by_cases hb0 : b = 0
 ·subst hb0; rw [(c0 a).1]; rfl
 ·rw [← c14 ha hb hb0]
  show Go.Proofs.YtakcpnpeadkfpaaGreatDoor.Ev.br (eqQ (Int.ofNat b) (Int.ofNat 0)) _ (S26_0 D m (Int.ofNat 14) (Int.ofNat a) (Int.ofNat b) (wrapF .i32 (Int.ofNat a)) (wrapF .i32 (Int.ofNat b)) h) = _
  rw [show eqQ (Int.ofNat b) (Int.ofNat 0) = false from by rw [eqQ_dec]; exact decide_eq_false (by show ¬ (b : Int) = 0; omega)]
  show S26_0 D m (Int.ofNat 14) (Int.ofNat a) (Int.ofNat b) (wrapF .i32 (Int.ofNat a)) (wrapF .i32 (Int.ofNat b)) h = _
  unfold S26_0
  rw [quo_k (by decide) (eqF_i32 hb hb0)]; rfl
theorem m16 (hm : Ml D) (ha : a < 4294967296) (hb : b < 4294967296) : WdOk (S26_4 D m) 16 a b := fun h => by
 unfold S26_4
 simp only [cvN, obI_k, beN, asB_vB, hm _ _ _ _]
 by_cases hb0 : b = 0
 ·subst hb0; rw [(c0 a).2]; rfl
 ·rw [← c16 ha hb hb0]
  show Go.Proofs.YtakcpnpeadkfpaaGreatDoor.Ev.br (eqQ (Int.ofNat b) (Int.ofNat 0)) _ (S26_0 D m (Int.ofNat 16) (Int.ofNat a) (Int.ofNat b) (wrapF .i32 (Int.ofNat a)) (wrapF .i32 (Int.ofNat b)) h) = _
  rw [show eqQ (Int.ofNat b) (Int.ofNat 0) = false from by rw [eqQ_dec]; exact decide_eq_false (by show ¬ (b : Int) = 0; omega)]
  show S26_0 D m (Int.ofNat 16) (Int.ofNat a) (Int.ofNat b) (wrapF .i32 (Int.ofNat a)) (wrapF .i32 (Int.ofNat b)) h = _
  unfold S26_0
  rw [rem_k (by decide) (eqF_i32 hb hb0)]; rfl
theorem wm (op : Nat) (hop : op = 11 ∨ op = 14 ∨ op = 16) (hmu : ∀ h kr, cal D 26 [vI (Int.ofNat op), vW (Int.ofNat a), vW (Int.ofNat b)] h kr = kr (.tup [vW (doW op a b), vI (Int.ofNat 0)]) h) : WdOk (S11_0 D m) op a b := fun h => by
 rcases hop with rfl | rfl | rfl <;> (unfold S11_0; exact hmu _ _)
end
theorem ml (n : Nat) : Ml (SF tabS (n + 1)) := fun a b h kr => cal_of (by
 show S44_0 (SF tabS n) n (Int.ofNat a) (Int.ofNat b) h = _
 unfold S44_0; simp only [cvN, obI_k]; rfl)
theorem wd_ok (op a b : Nat) (hop : op ∈ [1, 2, 3, 6, 8, 9, 10, 11, 14, 16]) (ha : a < 4294967296) (hb : b < 4294967296) (h : HP) :
  SF tabS 60 11 [vI (Int.ofNat op), vW (Int.ofNat a), vW (Int.ofNat b)] h .no = some (.ret (.tup [vW (doW op a b), vI (Int.ofNat 0)]) h, .no) := by
 have mu : ∀ o, o = 11 ∨ o = 14 ∨ o = 16 → ∀ h kr, cal (SF tabS 59) 26 [vI (Int.ofNat o), vW (Int.ofNat a), vW (Int.ofNat b)] h kr = kr (.tup [vW (doW o a b), vI (Int.ofNat 0)]) h := by
  intro o ho h kr
  apply cal_of
  show S26_4 (SF tabS 58) 58 (Int.ofNat o) (Int.ofNat a) (Int.ofNat b) h = _
  rcases ho with rfl | rfl | rfl
  ·exact m11 (ml 57) ha hb h
  ·exact m14 (ml 57) ha hb h
  ·exact m16 (ml 57) ha hb h
 show S11_0 (SF tabS 59) 59 (Int.ofNat op) (Int.ofNat a) (Int.ofNat b) h = _
 simp only [List.mem_cons, List.not_mem_nil, or_false] at hop
 rcases hop with rfl | rfl | rfl | rfl | rfl | rfl | rfl | rfl | rfl | rfl
 ·exact w1 ha hb h
 ·exact w2 ha hb h
 ·exact w3 ha h
 ·exact w6 ha hb h
 ·exact w8 ha h
 ·exact w9 ha hb h
 ·exact w10 ha hb h
 ·exact wm 11 (by omega) (mu 11 (by omega)) h
 ·exact wm 14 (by omega) (mu 14 (by omega)) h
 ·exact wm 16 (by omega) (mu 16 (by omega)) h
end
end Go.Proofs.YtakcpnpeadkfpaaGreatDoor.Sx
