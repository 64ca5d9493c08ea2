/- FoldOperators: Binary and Unary of the program and of the reference. -/
import Derived.Test.YtakcpnpeadkfpaaGreatDoorFr
set_option linter.unusedVariables false
set_option linter.unusedSimpArgs false
set_option linter.unusedSectionVars false
namespace Go.Proofs.YtakcpnpeadkfpaaGreatDoor.Lg
open Go Go.Proofs.YtakcpnpeadkfpaaGreatDoor.Ev Go.Proofs.YtakcpnpeadkfpaaGreatDoor.Sx
noncomputable section
abbrev cA (t : Int) (w b : Nat) (n : LN) (o : Int) : AV := .agg [vI t, wv w, uv b, .str n, vI o]
abbrev zC : AV := .agg [iv 0, wv 0, uv 0, .str [], iv 0]
theorem asI_u' (x : Int) (F : Int → Res2) : asI .u64 (AV.int .u64 x) F = F x := rfl
theorem ldI_of {a : AV} {h : HP} {n : Int} (e : cellV a h = some (vI n)) (F : Int → Res2) : ldI a h F = F n := by
 show cellC a h _ = _
 rw [cellC_eq, e]; rfl
theorem ldIV_of {a : AV} {h : HP} {n : Int} (e : cellV a h = some (vI n)) (F : Int → Option AV) : ldIV a h F = F n := by
 show cellCV a h _ = _
 rw [cellCV_eq, e]; rfl
theorem cellC_of {a : AV} {h : HP} {v : AV} (e : cellV a h = some v) (F : AV → Res2) : cellC a h F = F v := by rw [cellC_eq, e]; rfl
theorem and_no {s l : List Nat} {t : Int} {n : Nat} (h : ¬ (s = l ∧ t = (n : Int))) : (eqL s l && eqQ t (Int.ofNat n)) = false := by
 rw [eqL_eq, eq_dec]
 by_cases h1 : s = l
 ·rw [decide_eq_true h1, decide_eq_false (show ¬ t = Int.ofNat n from fun h2 => h ⟨h1, h2⟩)]; rfl
 ·rw [decide_eq_false h1]; rfl
theorem and_no2 {t u : Int} {n : Nat} (h : ¬ (t = (n : Int) ∧ u = (n : Int))) : (eqQ t (Int.ofNat n) && eqQ u (Int.ofNat n)) = false := by
 rw [eq_dec, eq_dec]
 by_cases h1 : t = (n : Int)
 ·rw [decide_eq_true (show t = Int.ofNat n from h1), decide_eq_false (show ¬ u = Int.ofNat n from fun h2 => h ⟨h1, h2⟩)]; rfl
 ·rw [decide_eq_false (show ¬ t = Int.ofNat n from fun h2 => h1 h2)]; rfl
def wwP (F : LN → Nat → Nat → AV) (xs : List AV) (h : HP) : Option (AV × HP) := match xs with | [.str s, .int .u32 (.ofNat a), .int .u32 (.ofNat b)] => some (F s a b, h) | _ => none
def rrP (xs : List AV) (h : HP) : Option (AV × HP) := match xs with | [.str s, .int .u64 (.ofNat a), .int .u64 (.ofNat b)] => some (.tup [cR s a b, iv (rE s)], h) | _ => none
def rrB (xs : List AV) (h : HP) : Option (AV × HP) := match xs with | [.str s, .int .u64 (.ofNat a), .int .u64 (.ofNat b)] => bif Nat.ble a 18446744073709551615 && Nat.ble b 18446744073709551615 then some (.tup [cR s a b, vB (rK s)], h) else none | _ => none
def ngP (xs : List AV) (h : HP) : Option (AV × HP) := match xs with | [.int .u64 (.ofNat a)] => bif Nat.ble a 18446744073709551615 then some (uv (ngN a), h) else none | _ => none
def f16 (s : LN) (a b : Nat) : AV := .tup [cW s a b, iv (wE s)]
def f18 (s : LN) (a b : Nat) : AV := .tup [cW s a b, vB (wK s)]
def r23 (xs : List AV) (h : HP) : Option (AV × HP) := match xs with | [.int .i64 (.ofNat op), .int .u32 (.ofNat a), .int .u32 (.ofNat b)] => bif Nat.beq op 2 then some (.agg [iv 1, wv (dwN 2 a b), uv 0, .str [], iv 0], h) else none | _ => none
theorem rrB_ok {s : LN} {a b : Nat} (ha : a < 2 ^ 64) (hb : b < 2 ^ 64) (h : HP) : rrB [.str s, uv a, uv b] h = some (.tup [cR s a b, vB (rK s)], h) := by
 show (bif Nat.ble a 18446744073709551615 && Nat.ble b 18446744073709551615 then some (AV.tup [cR s a b, vB (rK s)], h) else none) = _
 rw [show Nat.ble a 18446744073709551615 = true from by rw [Nat.ble_eq]; omega, show Nat.ble b 18446744073709551615 = true from by rw [Nat.ble_eq]; omega]
 rfl
theorem ngP_ok {a : Nat} (ha : a < 2 ^ 64) (h : HP) : ngP [uv a] h = some (uv (ngN a), h) := by
 show (bif Nat.ble a 18446744073709551615 then some (uv (ngN a), h) else none) = _
 rw [show Nat.ble a 18446744073709551615 = true from by rw [Nat.ble_eq]; omega]
 rfl
theorem r23_ran (m : Int) (a b : Nat) : gc [] (SF tabW 900 23 [iv 2, wv a, wv b] (gH m) .no) = some (.agg [iv 1, wv (dwN 2 a b), uv 0, .str [], iv 0], []) := by kernel_rfl
def tabQ : ST := .node 15 tabZ (.node 16 (.pr 16 (wwP f16)) (.node 17 (.pr 17 rrP) (.node 18 (.pr 18 (wwP f18)) (.node 19 (.pr 19 rrB) (.node 20 (.pr 20 ngP) (.node 21 tabZ (.node 22 (.pr 22 ngP) (.node 23 (.pr 23 r23) tabZ))))))))
theorem okQ (m : Int) (lf : Ev.Loc) : letI := rhoV m lf rfl; ST.Ok Tryz.prog tabQ := by
 letI := rhoV m lf rfl
 have p16 : ∀ w0, PrOk Tryz.prog w0 16 (wwP f16) := fun w0 => pr_ret (n := 900) (by kernel_rfl) (okW m lf) ⟨_, Tryz.func16, by kernel_rfl, by decide +kernel⟩ (fun xs h r hr => by
  unfold wwP at hr
  split at hr
  ·rename_i s a b
   obtain rfl := Option.some.inj hr
   exact ⟨rfl, rfl, rfl, w16 m a b s⟩
  ·simp at hr) w0
 have p18 : ∀ w0, PrOk Tryz.prog w0 18 (wwP f18) := fun w0 => pr_ret32 (n := 900) (by kernel_rfl) (okW m lf) ⟨_, Tryz.func18, by kernel_rfl, by decide +kernel⟩ (fun xs h r hle hr => by
  unfold wwP at hr
  split at hr
  ·rename_i s a b
   have h1 := hle a (by simp)
   have h2 := hle b (by simp)
   obtain rfl := Option.some.inj hr
   exact ⟨rfl, rfl, rfl, w18 m (by omega) (by omega) s⟩
  ·simp at hr) w0
 have p17 : ∀ w0, PrOk Tryz.prog w0 17 rrP := fun w0 => pr_ret (n := 900) (by kernel_rfl) (okZ m lf) ⟨_, Tryz.func17, by kernel_rfl, by decide +kernel⟩ (fun xs h r hr => by
  unfold rrP at hr
  split at hr
  ·rename_i s a b
   obtain rfl := Option.some.inj hr
   exact ⟨rfl, rfl, rfl, w17 m a b s⟩
  ·simp at hr) w0
 have p19 : ∀ w0, PrOk Tryz.prog w0 19 rrB := fun w0 => pr_ret (n := 900) (by kernel_rfl) (okZ m lf) ⟨_, Tryz.func19, by kernel_rfl, by decide +kernel⟩ (fun xs h r hr => by
  unfold rrB at hr
  split at hr
  ·rename_i s a b
   obtain ⟨hl, hr⟩ := bif_eq hr
   rw [Bool.and_eq_true] at hl
   have h1 := Nat.le_of_ble_eq_true hl.1
   have h2 := Nat.le_of_ble_eq_true hl.2
   obtain rfl := Option.some.inj hr
   exact ⟨rfl, rfl, rfl, w19 m (by omega) (by omega) s⟩
  ·simp at hr) w0
 have p20 : ∀ w0, PrOk Tryz.prog w0 20 ngP := fun w0 => pr_of (n := 20) (by kernel_rfl) okS ⟨_, Tryz.func20, by kernel_rfl, by decide +kernel⟩ (fun xs h r hr => by
  unfold ngP at hr
  split at hr
  ·rename_i a
   obtain ⟨hl, hr⟩ := bif_eq hr
   have h1 := Nat.le_of_ble_eq_true hl
   obtain rfl := Option.some.inj hr
   rw [← neg_same (show a < 2 ^ 64 by omega)]
   exact sf_neg _ (by omega) h
  ·simp at hr) w0
 have p22 : ∀ w0, PrOk Tryz.prog w0 22 ngP := fun w0 => pr_of (n := 17 + 3) (by kernel_rfl) okS ⟨_, Tryz.func22, by kernel_rfl, by decide +kernel⟩ (fun xs h r hr => by
  unfold ngP at hr
  split at hr
  ·rename_i a
   obtain ⟨hl, hr⟩ := bif_eq hr
   have h1 := Nat.le_of_ble_eq_true hl
   obtain rfl := Option.some.inj hr
   exact sf_neg' (by omega) 17 h
  ·simp at hr) w0
 have p23 : ∀ w0, PrOk Tryz.prog w0 23 r23 := fun w0 => pr_ret (n := 900) (by kernel_rfl) (okW m lf) ⟨_, Tryz.func23, by kernel_rfl, by decide +kernel⟩ (fun xs h r hr => by
  unfold r23 at hr
  split at hr
  ·obtain ⟨hl, hr⟩ := bif_eq hr
   obtain rfl := Nat.eq_of_beq_eq_true hl
   obtain rfl := Option.some.inj hr
   exact ⟨rfl, rfl, rfl, ret_of_gc (r23_ran m _ _)⟩
  ·simp at hr) w0
 exact .node _ _ _ (okZ m lf) (.node _ _ _ (.pr _ _ p16) (.node _ _ _ (.pr _ _ p17) (.node _ _ _ (.pr _ _ p18) (.node _ _ _ (.pr _ _ p19) (.node _ _ _ (.pr _ _ p20) (.node _ _ _ (okZ m lf) (.node _ _ _ (.pr _ _ p22) (.node _ _ _ (.pr _ _ p23) (okZ m lf)))))))))
theorem find7 : tabQ.run 7 = S7 := by kernel_rfl
theorem find8 : tabQ.run 8 = S8 := by kernel_rfl
theorem find9 : tabQ.run 9 = S9 := by kernel_rfl
theorem find10 : tabQ.run 10 = S10 := by kernel_rfl
theorem enter7 (D : CallD) (m : Nat) (s : LN) (a b : AV) (h : HP) : S7 D m [.str s, a, b] h .no = S7_0 D m s a b h := rfl
theorem enter8 (D : CallD) (m : Nat) (s : LN) (a b : AV) (h : HP) : S8 D m [.str s, a, b] h .no = S8_0 D m s a b h := rfl
theorem enter9 (D : CallD) (m : Nat) (s : LN) (a : AV) (h : HP) : S9 D m [.str s, a] h .no = S9_0 D m s a h := rfl
theorem enter10 (D : CallD) (m : Nat) (s : LN) (a : AV) (h : HP) : S10 D m [.str s, a] h .no = S10_0 D m s a h := rfl
section
variable (m : Int) (s : LN) (t1 t2 : Int) (w1 w2 b1 b2 : Nat) (n1 n2 : LN) (o1 o2 : Int)
theorem k7_1 : gc [] (SF tabQ 900 7 [.str s, cA 1 w1 b1 n1 o1, cA 1 w2 b2 n2 o2] (gH m) .no) = some (.tup [cW s w1 w2, iv (wE s)], []) := by kernel_rfl
theorem k7_2 : gc [] (SF tabQ 900 7 [.str s, cA 2 w1 b1 n1 o1, cA 2 w2 b2 n2 o2] (gH m) .no) = some (.tup [cR s b1 b2, iv (rE s)], []) := by kernel_rfl
theorem k8_1 : gc [] (SF tabQ 900 8 [.str s, cA 1 w1 b1 n1 o1, cA 1 w2 b2 n2 o2] (gH m) .no) = some (.tup [cW s w1 w2, vB (wK s)], []) := by kernel_rfl
theorem k9_2 : gc [] (SF tabQ 900 9 [.str [45], cA 1 w1 b1 n1 o1] (gH m) .no) = some (.tup [cW [45] 0 w1, iv (wE [45])], []) := by kernel_rfl
theorem k9_3 : gc [] (SF tabQ 900 9 [.str [33], cA 1 w1 b1 n1 o1] (gH m) .no) = some (.tup [.agg [iv 1, wv (bW (Nat.beq w1 0)), uv 0, .str [], iv 0], iv 0], []) := by kernel_rfl
theorem k9_4 : gc [] (SF tabQ 900 9 [.str [126], cA 1 w1 b1 n1 o1] (gH m) .no) = some (.tup [cW [94] w1 4294967295, iv (wE [94])], []) := by kernel_rfl
theorem k10_2 : gc [] (SF tabQ 900 10 [.str [45], cA 1 w1 b1 n1 o1] (gH m) .no) = some (.tup [.agg [iv 1, wv (dwN 2 0 w1), uv 0, .str [], iv 0], vB true], []) := by kernel_rfl
theorem k10_3 : gc [] (SF tabQ 900 10 [.str [33], cA 1 w1 b1 n1 o1] (gH m) .no) = some (.tup [.agg [iv 1, wv (bW (Nat.beq w1 0)), uv 0, .str [], iv 0], vB true], []) := by kernel_rfl
theorem k10_4 : gc [] (SF tabQ 900 10 [.str [126], cA 1 w1 b1 n1 o1] (gH m) .no) = some (.tup [.agg [iv 1, vW (wrapF .u32 (Int.ofNat 4294967295 - Int.ofNat w1)), uv 0, .str [], iv 0], vB true], []) := by kernel_rfl
theorem k7_0 (h1 : ¬ (t1 = 1 ∧ t2 = 1)) (h2 : ¬ (t1 = 2 ∧ t2 = 2)) : ∃ h2, SF tabQ 900 7 [.str s, cA t1 w1 b1 n1 o1, cA t2 w2 b2 n2 o2] (gH m) .no = some (.ret (.tup [zC, iv 15]) h2, .no) := by
 rw [SF_900, find7, enter7]
 unfold S7_0
 refine ex_tr (ldI_of (n := t1) (by kernel_rfl) _) ?_
 refine ex_tr (or_V' (d := eqQ t2 (Int.ofNat 1)) (ldIV_of (n := t2) (by kernel_rfl) _) _) ?_
 refine ex_tr (br_ff (and_no2 (n := 1) h1) _ _) ?_
 refine ex_tr (ldI_of (n := t1) (by kernel_rfl) _) ?_
 refine ex_tr (or_V' (d := eqQ t2 (Int.ofNat 2)) (ldIV_of (n := t2) (by kernel_rfl) _) _) ?_
 refine ex_tr (br_ff (and_no2 (n := 2) h2) _ _) ?_
 exact ret_of_gc (by kernel_rfl)
theorem k8_0 (h1 : ¬ (t1 = 1 ∧ t2 = 1)) (h2 : ¬ (t1 = 2 ∧ t2 = 2)) : ∃ h2, SF tabQ 900 8 [.str s, cA t1 w1 b1 n1 o1, cA t2 w2 b2 n2 o2] (gH m) .no = some (.ret (.tup [zC, vB false]) h2, .no) := by
 rw [SF_900, find8, enter8]
 unfold S8_0
 refine ex_tr (ldI_of (n := t1) (by kernel_rfl) _) ?_
 refine ex_tr (or_V' (d := eqQ t2 (Int.ofNat 1)) (ldIV_of (n := t2) (by kernel_rfl) _) _) ?_
 refine ex_tr (br_ff (and_no2 (n := 1) h1) _ _) ?_
 refine ex_tr (ldI_of (n := t1) (by kernel_rfl) _) ?_
 refine ex_tr (or_V' (d := eqQ t2 (Int.ofNat 2)) (ldIV_of (n := t2) (by kernel_rfl) _) _) ?_
 refine ex_tr (br_ff (and_no2 (n := 2) h2) _ _) ?_
 exact ret_of_gc (by kernel_rfl)
theorem k8_2 (h1 : b1 < 2 ^ 64) (h2 : b2 < 2 ^ 64) : ∃ h2, SF tabQ 900 8 [.str s, cA 2 w1 b1 n1 o1, cA 2 w2 b2 n2 o2] (gH m) .no = some (.ret (.tup [cR s b1 b2, vB (rK s)]) h2, .no) := by
 rw [SF_900, find8, enter8]
 unfold S8_0
 refine ex_tr (ldI_of (n := 2) (by kernel_rfl) _) ?_
 refine ex_tr (or_V' (d := eqQ 2 (Int.ofNat 1)) (ldIV_of (n := 2) (by kernel_rfl) _) _) ?_
 refine ex_tr (br_ff (by kernel_rfl) _ _) ?_
 refine ex_tr (ldI_of (n := 2) (by kernel_rfl) _) ?_
 refine ex_tr (or_V' (d := eqQ 2 (Int.ofNat 2)) (ldIV_of (n := 2) (by kernel_rfl) _) _) ?_
 refine ex_tr (br_tt (by kernel_rfl) _ _) ?_
 refine ex_tr (cellC_of (v := uv b1) (by kernel_rfl) _) ?_
 refine ex_tr (asI_u' _ _) ?_
 refine ex_tr (cellC_of (v := uv b2) (by kernel_rfl) _) ?_
 refine ex_tr (asI_u' _ _) ?_
 refine ex_tr (prim_cal (n := 898) (p := rrB) (by kernel_rfl) (rrB_ok h1 h2 _) _) ?_
 exact ret_of_gc (by kernel_rfl)
theorem k9_1 (h1 : b1 < 2 ^ 64) : ∃ h2, SF tabQ 900 9 [.str [45], cA 2 w1 b1 n1 o1] (gH m) .no = some (.ret (.tup [.agg [iv 2, wv 0, uv (ngN b1), .str [], iv 0], iv 0]) h2, .no) := by
 rw [SF_900, find9, enter9]
 unfold S9_0
 refine ex_tr (or_V' (d := eqQ 2 (Int.ofNat 2)) (ldIV_of (n := 2) (by kernel_rfl) _) _) ?_
 refine ex_tr (br_tt (by kernel_rfl) _ _) ?_
 refine ex_tr (cellC_of (v := uv b1) (by kernel_rfl) _) ?_
 refine ex_tr (asI_u' _ _) ?_
 refine ex_tr (prim_cal (n := 898) (p := ngP) (by kernel_rfl) (ngP_ok h1 _) _) ?_
 exact ret_of_gc (by kernel_rfl)
theorem k10_1 (h1 : b1 < 2 ^ 64) : ∃ h2, SF tabQ 900 10 [.str [45], cA 2 w1 b1 n1 o1] (gH m) .no = some (.ret (.tup [.agg [iv 2, wv 0, uv (ngN b1), .str [], iv 0], vB true]) h2, .no) := by
 rw [SF_900, find10, enter10]
 unfold S10_0
 refine ex_tr (or_V' (d := eqQ 2 (Int.ofNat 2)) (ldIV_of (n := 2) (by kernel_rfl) _) _) ?_
 refine ex_tr (br_tt (by kernel_rfl) _ _) ?_
 refine ex_tr (cellC_of (v := uv b1) (by kernel_rfl) _) ?_
 refine ex_tr (asI_u' _ _) ?_
 refine ex_tr (prim_cal (n := 898) (p := ngP) (by kernel_rfl) (ngP_ok h1 _) _) ?_
 exact ret_of_gc (by kernel_rfl)
theorem k9_0 (h1 : ¬ (s = [45] ∧ t1 = 2)) (h2 : ¬ (s = [45] ∧ t1 = 1)) (h3 : ¬ (s = [33] ∧ t1 = 1)) (h4 : ¬ (s = [126] ∧ t1 = 1)) : ∃ h2, SF tabQ 900 9 [.str s, cA t1 w1 b1 n1 o1] (gH m) .no = some (.ret (.tup [zC, iv 15]) h2, .no) := by
 rw [SF_900, find9, enter9]
 unfold S9_0
 refine ex_tr (or_V' (d := eqQ t1 (Int.ofNat 2)) (ldIV_of (n := t1) (by kernel_rfl) _) _) ?_
 refine ex_tr (br_ff (and_no (n := 2) h1) _ _) ?_
 refine ex_tr (or_V' (d := eqQ t1 (Int.ofNat 1)) (ldIV_of (n := t1) (by kernel_rfl) _) _) ?_
 refine ex_tr (br_ff (and_no (n := 1) h2) _ _) ?_
 refine ex_tr (or_V' (d := eqQ t1 (Int.ofNat 1)) (ldIV_of (n := t1) (by kernel_rfl) _) _) ?_
 refine ex_tr (br_ff (and_no (n := 1) h3) _ _) ?_
 refine ex_tr (or_V' (d := eqQ t1 (Int.ofNat 1)) (ldIV_of (n := t1) (by kernel_rfl) _) _) ?_
 refine ex_tr (br_ff (and_no (n := 1) h4) _ _) ?_
 exact ret_of_gc (by kernel_rfl)
theorem k10_0 (h1 : ¬ (s = [45] ∧ t1 = 2)) (h2 : ¬ (s = [45] ∧ t1 = 1)) (h3 : ¬ (s = [33] ∧ t1 = 1)) (h4 : ¬ (s = [126] ∧ t1 = 1)) : ∃ h2, SF tabQ 900 10 [.str s, cA t1 w1 b1 n1 o1] (gH m) .no = some (.ret (.tup [zC, vB false]) h2, .no) := by
 rw [SF_900, find10, enter10]
 unfold S10_0
 refine ex_tr (or_V' (d := eqQ t1 (Int.ofNat 2)) (ldIV_of (n := t1) (by kernel_rfl) _) _) ?_
 refine ex_tr (br_ff (and_no (n := 2) h1) _ _) ?_
 refine ex_tr (ldI_of (n := t1) (by kernel_rfl) _) ?_
 by_cases g : t1 = 1
 ·subst g
  refine ex_tr (br_ff (by kernel_rfl) _ _) ?_
  refine ex_tr (br_ff (eqL_no (fun e => h2 ⟨e, rfl⟩)) _ _) ?_
  refine ex_tr (br_ff (eqL_no (fun e => h3 ⟨e, rfl⟩)) _ _) ?_
  refine ex_tr (br_ff (eqL_no (fun e => h4 ⟨e, rfl⟩)) _ _) ?_
  exact ret_of_gc (by kernel_rfl)
 ·refine ex_tr (br_tt (by rw [not_dec, eq_dec, decide_eq_false (show ¬ t1 = Int.ofNat 1 from g)]; rfl) _ _) ?_
  exact ret_of_gc (by kernel_rfl)
end
end
end Go.Proofs.YtakcpnpeadkfpaaGreatDoor.Lg
