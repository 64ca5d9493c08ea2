/- FoldOperators: what fold.words and the reference's answer. -/
import Derived.Test.YtakcpnpeadkfpaaGreatDoorFo
set_option linter.unusedVariables false
set_option linter.unusedSimpArgs false
set_option linter.unusedSectionVars false
namespace Go.Proofs.YtakcpnpeadkfpaaGreatDoor.Lg
open Go Go.Proofs.YtakcpnpeadkfpaaGreatDoor.Ev Go.Proofs.YtakcpnpeadkfpaaGreatDoor.Sx
noncomputable section
theorem ex_tr {X Y : Res2} {v : AV} (e : X = Y) (h : ∃ h2, Y = some (.ret v h2, .no)) : ∃ h2, X = some (.ret v h2, .no) := by rw [e]; exact h
theorem br_tt {c : Bool} (h : c = true) (x y : Res2) : br c x y = x := by subst h; rfl
theorem br_ff {c : Bool} (h : c = false) (x y : Res2) : br c x y = y := by subst h; rfl
theorem eqL_no {s k : List Nat} (h : ¬ s = k) : eqL s k = false := by rw [eqL_eq]; exact decide_eq_false h
theorem bneqW (a b : Nat) (k : AV → Res2) : binC .neq (vW (Int.ofNat a)) (vW (Int.ofNat b)) k = k (.bool (!Nat.beq a b)) := by kernel_rfl
theorem bneqV (a b : Nat) (k : AV → Option AV) : binCV .neq (vW (Int.ofNat a)) (vW (Int.ofNat b)) k = k (.bool (!Nat.beq a b)) := by kernel_rfl
theorem asBV_b (c : Bool) (F : Bool → Option AV) : asBV (.bool c) F = F c := rfl
theorem SF_900 (t : ST) (f : Nat) (xs : List AV) (h : HP) (u : AMode) : SF t 900 f xs h u = t.run f (SF t 899) 899 xs h u := rfl
theorem enter16 (D : CallD) (m : Nat) (s : LN) (a b : Nat) (h : HP) : S16 D m [.str s, wv a, wv b] h .no = S16_0 D m s (Int.ofNat a) (Int.ofNat b) h := rfl
theorem enter18 (D : CallD) (m : Nat) (s : LN) (a b : Nat) (h : HP) : S18 D m [.str s, wv a, wv b] h .no = S18_0 D m s (Int.ofNat a) (Int.ofNat b) h := rfl
theorem find16 : tabW.run 16 = S16 := by kernel_rfl
theorem find18 : tabW.run 18 = S18 := by kernel_rfl
theorem c33 (s : LN) (h : HP) (k : AV → HP → Res2) : cal (SF tabW 899) 33 [vS s] h k = k (iv (opn s)) h := by kernel_rfl
theorem c34 (a : Nat) (h : HP) (k : AV → HP → Res2) : cal (SF tabW 899) 34 [vW (Int.ofNat a)] h k = k (vI (sgW a)) h := by kernel_rfl
theorem c37 (a : Nat) (h : HP) (k : AV → HP → Res2) : cal (SF tabW 899) 37 [vW (Int.ofNat a)] h k = k (vI (sgW a)) h := by kernel_rfl
theorem k16_0 (m : Int) (a b : Nat) : gc [] (SF tabW 900 16 [.str [43], wv a, wv b] (gH m) .no) = some (.tup [cW [43] a b, iv (wE [43])], []) := by kernel_rfl
theorem k16_1 (m : Int) (a b : Nat) : gc [] (SF tabW 900 16 [.str [45], wv a, wv b] (gH m) .no) = some (.tup [cW [45] a b, iv (wE [45])], []) := by kernel_rfl
theorem k16_2 (m : Int) (a b : Nat) : gc [] (SF tabW 900 16 [.str [42], wv a, wv b] (gH m) .no) = some (.tup [cW [42] a b, iv (wE [42])], []) := by kernel_rfl
theorem k16_3 (m : Int) (a b : Nat) : gc [] (SF tabW 900 16 [.str [47], wv a, wv b] (gH m) .no) = some (.tup [cW [47] a b, iv (wE [47])], []) := by kernel_rfl
theorem k16_4 (m : Int) (a b : Nat) : gc [] (SF tabW 900 16 [.str [37], wv a, wv b] (gH m) .no) = some (.tup [cW [37] a b, iv (wE [37])], []) := by kernel_rfl
theorem k16_5 (m : Int) (a b : Nat) : gc [] (SF tabW 900 16 [.str [60, 60], wv a, wv b] (gH m) .no) = some (.tup [cW [60, 60] a b, iv (wE [60, 60])], []) := by kernel_rfl
theorem k16_6 (m : Int) (a b : Nat) : gc [] (SF tabW 900 16 [.str [62, 62], wv a, wv b] (gH m) .no) = some (.tup [cW [62, 62] a b, iv (wE [62, 62])], []) := by kernel_rfl
theorem k16_7 (m : Int) (a b : Nat) : gc [] (SF tabW 900 16 [.str [38], wv a, wv b] (gH m) .no) = some (.tup [cW [38] a b, iv (wE [38])], []) := by kernel_rfl
theorem k16_8 (m : Int) (a b : Nat) : gc [] (SF tabW 900 16 [.str [94], wv a, wv b] (gH m) .no) = some (.tup [cW [94] a b, iv (wE [94])], []) := by kernel_rfl
theorem k16_9 (m : Int) (a b : Nat) : gc [] (SF tabW 900 16 [.str [124], wv a, wv b] (gH m) .no) = some (.tup [cW [124] a b, iv (wE [124])], []) := by kernel_rfl
theorem k16_10 (m : Int) (a b : Nat) : gc [] (SF tabW 900 16 [.str [61, 61], wv a, wv b] (gH m) .no) = some (.tup [cW [61, 61] a b, iv (wE [61, 61])], []) := by kernel_rfl
theorem k16_11 (m : Int) (a b : Nat) : gc [] (SF tabW 900 16 [.str [33, 61], wv a, wv b] (gH m) .no) = some (.tup [cW [33, 61] a b, iv (wE [33, 61])], []) := by kernel_rfl
theorem k16_12 (m : Int) (a b : Nat) : gc [] (SF tabW 900 16 [.str [60], wv a, wv b] (gH m) .no) = some (.tup [cW [60] a b, iv (wE [60])], []) := by kernel_rfl
theorem k16_13 (m : Int) (a b : Nat) : gc [] (SF tabW 900 16 [.str [60, 61], wv a, wv b] (gH m) .no) = some (.tup [cW [60, 61] a b, iv (wE [60, 61])], []) := by kernel_rfl
theorem k16_14 (m : Int) (a b : Nat) : gc [] (SF tabW 900 16 [.str [62], wv a, wv b] (gH m) .no) = some (.tup [cW [62] a b, iv (wE [62])], []) := by kernel_rfl
theorem k16_15 (m : Int) (a b : Nat) : gc [] (SF tabW 900 16 [.str [62, 61], wv a, wv b] (gH m) .no) = some (.tup [cW [62, 61] a b, iv (wE [62, 61])], []) := by kernel_rfl
theorem w16 (m : Int) (a b : Nat) (s : LN) : ∃ h2, SF tabW 900 16 [.str s, wv a, wv b] (gH m) .no = some (.ret (.tup [cW s a b, iv (wE s)]) h2, .no) := by
 by_cases h0 : s = [43]
 ·subst h0; exact ret_of_gc (k16_0 m a b)
 by_cases h1 : s = [45]
 ·subst h1; exact ret_of_gc (k16_1 m a b)
 by_cases h2 : s = [42]
 ·subst h2; exact ret_of_gc (k16_2 m a b)
 by_cases h3 : s = [47]
 ·subst h3; exact ret_of_gc (k16_3 m a b)
 by_cases h4 : s = [37]
 ·subst h4; exact ret_of_gc (k16_4 m a b)
 by_cases h5 : s = [60, 60]
 ·subst h5; exact ret_of_gc (k16_5 m a b)
 by_cases h6 : s = [62, 62]
 ·subst h6; exact ret_of_gc (k16_6 m a b)
 by_cases h7 : s = [38]
 ·subst h7; exact ret_of_gc (k16_7 m a b)
 by_cases h8 : s = [94]
 ·subst h8; exact ret_of_gc (k16_8 m a b)
 by_cases h9 : s = [124]
 ·subst h9; exact ret_of_gc (k16_9 m a b)
 by_cases h10 : s = [61, 61]
 ·subst h10; exact ret_of_gc (k16_10 m a b)
 by_cases h11 : s = [33, 61]
 ·subst h11; exact ret_of_gc (k16_11 m a b)
 by_cases h12 : s = [60]
 ·subst h12; exact ret_of_gc (k16_12 m a b)
 by_cases h13 : s = [60, 61]
 ·subst h13; exact ret_of_gc (k16_13 m a b)
 by_cases h14 : s = [62]
 ·subst h14; exact ret_of_gc (k16_14 m a b)
 by_cases h15 : s = [62, 61]
 ·subst h15; exact ret_of_gc (k16_15 m a b)
 by_cases h16 : s = [38, 38]
 ·subst h16
  rw [SF_900, find16, enter16]
  unfold S16_0
  refine ex_tr (c33 _ _ _) ?_
  refine ex_tr (asI_iv _ _) ?_
  refine ex_tr (br_ff (by kernel_rfl) _ _) ?_
  refine ex_tr (c34 _ _ _) ?_
  refine ex_tr (asI_iv _ _) ?_
  refine ex_tr (c34 _ _ _) ?_
  refine ex_tr (asI_iv _ _) ?_
  refine ex_tr (br_ff (by kernel_rfl) _ _) ?_
  refine ex_tr (br_ff (by kernel_rfl) _ _) ?_
  refine ex_tr (br_ff (by kernel_rfl) _ _) ?_
  refine ex_tr (br_ff (by kernel_rfl) _ _) ?_
  refine ex_tr (br_ff (by kernel_rfl) _ _) ?_
  refine ex_tr (br_ff (by kernel_rfl) _ _) ?_
  refine ex_tr (br_tt (by kernel_rfl) _ _) ?_
  refine ex_tr (and_B _ _ _) ?_
  exact ret_of_gc (by kernel_rfl)
 by_cases h17 : s = [124, 124]
 ·subst h17
  rw [SF_900, find16, enter16]
  unfold S16_0
  refine ex_tr (c33 _ _ _) ?_
  refine ex_tr (asI_iv _ _) ?_
  refine ex_tr (br_ff (by kernel_rfl) _ _) ?_
  refine ex_tr (c34 _ _ _) ?_
  refine ex_tr (asI_iv _ _) ?_
  refine ex_tr (c34 _ _ _) ?_
  refine ex_tr (asI_iv _ _) ?_
  refine ex_tr (br_ff (by kernel_rfl) _ _) ?_
  refine ex_tr (br_ff (by kernel_rfl) _ _) ?_
  refine ex_tr (br_ff (by kernel_rfl) _ _) ?_
  refine ex_tr (br_ff (by kernel_rfl) _ _) ?_
  refine ex_tr (br_ff (by kernel_rfl) _ _) ?_
  refine ex_tr (br_ff (by kernel_rfl) _ _) ?_
  refine ex_tr (br_ff (by kernel_rfl) _ _) ?_
  refine ex_tr (br_tt (by kernel_rfl) _ _) ?_
  refine ex_tr (or_B _ _ _) ?_
  exact ret_of_gc (by kernel_rfl)
 have hK : wK s = false := by unfold wK; rw [if_neg h0, if_neg h1, if_neg h2, if_neg h3, if_neg h4, if_neg h5, if_neg h6, if_neg h7, if_neg h8, if_neg h9, if_neg h10, if_neg h11, if_neg h12, if_neg h13, if_neg h14, if_neg h15, if_neg h16, if_neg h17]
 have hV : wV s a b = 0 := by unfold wV; rw [if_neg h0, if_neg h1, if_neg h2, if_neg h3, if_neg h4, if_neg h5, if_neg h6, if_neg h7, if_neg h8, if_neg h9, if_neg h10, if_neg h11, if_neg h12, if_neg h13, if_neg h14, if_neg h15, if_neg h16, if_neg h17]
 have hE : wE s = 15 := by unfold wE; rw [hK]
 have eK : cW s a b = .agg [iv 0, wv 0, uv 0, .str [], iv 0] := by
  show AV.agg [iv (bW (wK s)), wv (wV s a b), uv 0, .str [], iv 0] = _
  rw [hV, hK]; rfl
 rw [eK, hE]
 rw [SF_900, find16, enter16]
 unfold S16_0
 have h0 : opn s = 0 := by unfold opn; rw [if_neg h0, if_neg h1, if_neg h2, if_neg h3, if_neg h4, if_neg h5, if_neg h6, if_neg h7, if_neg h8, if_neg h9]
 refine ex_tr (c33 _ _ _) ?_
 refine ex_tr (asI_iv _ _) ?_
 refine ex_tr (br_ff (by rw [h0]; kernel_rfl) _ _) ?_
 refine ex_tr (c34 _ _ _) ?_
 refine ex_tr (asI_iv _ _) ?_
 refine ex_tr (c34 _ _ _) ?_
 refine ex_tr (asI_iv _ _) ?_
 refine ex_tr (br_ff (eqL_no h10) _ _) ?_
 refine ex_tr (br_ff (eqL_no h11) _ _) ?_
 refine ex_tr (br_ff (eqL_no h12) _ _) ?_
 refine ex_tr (br_ff (eqL_no h13) _ _) ?_
 refine ex_tr (br_ff (eqL_no h14) _ _) ?_
 refine ex_tr (br_ff (eqL_no h15) _ _) ?_
 refine ex_tr (br_ff (eqL_no h16) _ _) ?_
 refine ex_tr (br_ff (eqL_no h17) _ _) ?_
 exact ret_of_gc (by kernel_rfl)
theorem k18_0 (m : Int) (a b : Nat) : gc [] (SF tabW 900 18 [.str [43], wv a, wv b] (gH m) .no) = some (.tup [cW [43] a b, vB (wK [43])], []) := by kernel_rfl
theorem k18_1 (m : Int) (a b : Nat) : gc [] (SF tabW 900 18 [.str [45], wv a, wv b] (gH m) .no) = some (.tup [cW [45] a b, vB (wK [45])], []) := by kernel_rfl
theorem k18_2 (m : Int) (a b : Nat) : gc [] (SF tabW 900 18 [.str [42], wv a, wv b] (gH m) .no) = some (.tup [cW [42] a b, vB (wK [42])], []) := by kernel_rfl
theorem k18_3 (m : Int) (a b : Nat) : gc [] (SF tabW 900 18 [.str [47], wv a, wv b] (gH m) .no) = some (.tup [cW [47] a b, vB (wK [47])], []) := by kernel_rfl
theorem k18_4 (m : Int) (a b : Nat) : gc [] (SF tabW 900 18 [.str [37], wv a, wv b] (gH m) .no) = some (.tup [cW [37] a b, vB (wK [37])], []) := by kernel_rfl
theorem k18_5 (m : Int) (a b : Nat) : gc [] (SF tabW 900 18 [.str [60, 60], wv a, wv b] (gH m) .no) = some (.tup [cW [60, 60] a b, vB (wK [60, 60])], []) := by kernel_rfl
theorem k18_6 (m : Int) (a b : Nat) : gc [] (SF tabW 900 18 [.str [62, 62], wv a, wv b] (gH m) .no) = some (.tup [cW [62, 62] a b, vB (wK [62, 62])], []) := by kernel_rfl
theorem k18_7 (m : Int) (a b : Nat) : gc [] (SF tabW 900 18 [.str [38], wv a, wv b] (gH m) .no) = some (.tup [cW [38] a b, vB (wK [38])], []) := by kernel_rfl
theorem k18_8 (m : Int) (a b : Nat) : gc [] (SF tabW 900 18 [.str [94], wv a, wv b] (gH m) .no) = some (.tup [cW [94] a b, vB (wK [94])], []) := by kernel_rfl
theorem k18_9 (m : Int) (a b : Nat) : gc [] (SF tabW 900 18 [.str [124], wv a, wv b] (gH m) .no) = some (.tup [cW [124] a b, vB (wK [124])], []) := by kernel_rfl
theorem k18_10 (m : Int) (a b : Nat) : gc [] (SF tabW 900 18 [.str [61, 61], wv a, wv b] (gH m) .no) = some (.tup [cW [61, 61] a b, vB (wK [61, 61])], []) := by kernel_rfl
theorem k18_11 (m : Int) (a b : Nat) : gc [] (SF tabW 900 18 [.str [33, 61], wv a, wv b] (gH m) .no) = some (.tup [cW [33, 61] a b, vB (wK [33, 61])], []) := by kernel_rfl
theorem k18_12 (m : Int) (a b : Nat) : gc [] (SF tabW 900 18 [.str [60], wv a, wv b] (gH m) .no) = some (.tup [cW [60] a b, vB (wK [60])], []) := by kernel_rfl
theorem k18_13 (m : Int) (a b : Nat) : gc [] (SF tabW 900 18 [.str [60, 61], wv a, wv b] (gH m) .no) = some (.tup [cW [60, 61] a b, vB (wK [60, 61])], []) := by kernel_rfl
theorem k18_14 (m : Int) (a b : Nat) : gc [] (SF tabW 900 18 [.str [62], wv a, wv b] (gH m) .no) = some (.tup [cW [62] a b, vB (wK [62])], []) := by kernel_rfl
theorem k18_15 (m : Int) (a b : Nat) : gc [] (SF tabW 900 18 [.str [62, 61], wv a, wv b] (gH m) .no) = some (.tup [cW [62, 61] a b, vB (wK [62, 61])], []) := by kernel_rfl
theorem w18 (m : Int) {a b : Nat} (ha : a < 4294967296) (hb : b < 4294967296) (s : LN) : ∃ h2, SF tabW 900 18 [.str s, wv a, wv b] (gH m) .no = some (.ret (.tup [cW s a b, vB (wK s)]) h2, .no) := by
 by_cases h0 : s = [43]
 ·subst h0; exact ret_of_gc (k18_0 m a b)
 by_cases h1 : s = [45]
 ·subst h1; exact ret_of_gc (k18_1 m a b)
 by_cases h2 : s = [42]
 ·subst h2; exact ret_of_gc (k18_2 m a b)
 by_cases h3 : s = [47]
 ·subst h3; exact ret_of_gc (k18_3 m a b)
 by_cases h4 : s = [37]
 ·subst h4; exact ret_of_gc (k18_4 m a b)
 by_cases h5 : s = [60, 60]
 ·subst h5; exact ret_of_gc (k18_5 m a b)
 by_cases h6 : s = [62, 62]
 ·subst h6; exact ret_of_gc (k18_6 m a b)
 by_cases h7 : s = [38]
 ·subst h7; exact ret_of_gc (k18_7 m a b)
 by_cases h8 : s = [94]
 ·subst h8; exact ret_of_gc (k18_8 m a b)
 by_cases h9 : s = [124]
 ·subst h9; exact ret_of_gc (k18_9 m a b)
 by_cases h10 : s = [61, 61]
 ·subst h10; exact ret_of_gc (k18_10 m a b)
 by_cases h11 : s = [33, 61]
 ·subst h11; exact ret_of_gc (k18_11 m a b)
 by_cases h12 : s = [60]
 ·subst h12; exact ret_of_gc (k18_12 m a b)
 by_cases h13 : s = [60, 61]
 ·subst h13; exact ret_of_gc (k18_13 m a b)
 by_cases h14 : s = [62]
 ·subst h14; exact ret_of_gc (k18_14 m a b)
 by_cases h15 : s = [62, 61]
 ·subst h15; exact ret_of_gc (k18_15 m a b)
 by_cases h16 : s = [38, 38]
 ·subst h16
  rw [SF_900, find18, enter18]
  unfold S18_0
  refine ex_tr (c37 _ _ _) ?_
  refine ex_tr (asI_iv _ _) ?_
  refine ex_tr (c37 _ _ _) ?_
  refine ex_tr (asI_iv _ _) ?_
  refine ex_tr (br_ff (by kernel_rfl) _ _) ?_
  refine ex_tr (br_ff (by kernel_rfl) _ _) ?_
  refine ex_tr (br_ff (by kernel_rfl) _ _) ?_
  refine ex_tr (br_ff (by kernel_rfl) _ _) ?_
  refine ex_tr (br_ff (by kernel_rfl) _ _) ?_
  refine ex_tr (br_ff (by kernel_rfl) _ _) ?_
  refine ex_tr (br_ff (by kernel_rfl) _ _) ?_
  refine ex_tr (br_ff (by kernel_rfl) _ _) ?_
  refine ex_tr (br_ff (by kernel_rfl) _ _) ?_
  refine ex_tr (br_ff (by kernel_rfl) _ _) ?_
  refine ex_tr (br_ff (by kernel_rfl) _ _) ?_
  refine ex_tr (br_ff (by kernel_rfl) _ _) ?_
  refine ex_tr (br_ff (by kernel_rfl) _ _) ?_
  refine ex_tr (br_ff (by kernel_rfl) _ _) ?_
  refine ex_tr (br_ff (by kernel_rfl) _ _) ?_
  refine ex_tr (br_ff (by kernel_rfl) _ _) ?_
  refine ex_tr (br_tt (by kernel_rfl) _ _) ?_
  refine ex_tr (bneqW _ _ _) ?_
  refine ex_tr (asB_b _ _) ?_
  refine ex_tr (or_V' (d := !Nat.beq b 0) (by rw [bneqV, asBV_b]) _) ?_
  have e : wV [38, 38] a b = bW ((!Nat.beq a 0) && (!Nat.beq b 0)) := by
   have e0 : wV [38, 38] a b = bW (notQ (eqQ (sgW a) (Int.ofNat 0)) && notQ (eqQ (sgW b) (Int.ofNat 0))) := by kernel_rfl
   rw [e0, sg_zero ha, sg_zero hb]
   congr 1
   rw [show Nat.beq a 0 = decide (a = 0) by rw [Bool.eq_iff_iff, Nat.beq_eq, decide_eq_true_iff], show Nat.beq b 0 = decide (b = 0) by rw [Bool.eq_iff_iff, Nat.beq_eq, decide_eq_true_iff]]
  have eK : cW [38, 38] a b = .agg [iv 1, wv (bW ((!Nat.beq a 0) && (!Nat.beq b 0))), uv 0, .str [], iv 0] := by
   have e1 : bW (wK [38, 38]) = 1 := by kernel_rfl
   show AV.agg [iv (bW (wK [38, 38])), wv (wV [38, 38] a b), uv 0, .str [], iv 0] = _
   rw [e, e1]
  have e2 : wK [38, 38] = true := by kernel_rfl
  rw [eK, e2]
  exact ret_of_gc (by kernel_rfl)
 by_cases h17 : s = [124, 124]
 ·subst h17
  rw [SF_900, find18, enter18]
  unfold S18_0
  refine ex_tr (c37 _ _ _) ?_
  refine ex_tr (asI_iv _ _) ?_
  refine ex_tr (c37 _ _ _) ?_
  refine ex_tr (asI_iv _ _) ?_
  refine ex_tr (br_ff (by kernel_rfl) _ _) ?_
  refine ex_tr (br_ff (by kernel_rfl) _ _) ?_
  refine ex_tr (br_ff (by kernel_rfl) _ _) ?_
  refine ex_tr (br_ff (by kernel_rfl) _ _) ?_
  refine ex_tr (br_ff (by kernel_rfl) _ _) ?_
  refine ex_tr (br_ff (by kernel_rfl) _ _) ?_
  refine ex_tr (br_ff (by kernel_rfl) _ _) ?_
  refine ex_tr (br_ff (by kernel_rfl) _ _) ?_
  refine ex_tr (br_ff (by kernel_rfl) _ _) ?_
  refine ex_tr (br_ff (by kernel_rfl) _ _) ?_
  refine ex_tr (br_ff (by kernel_rfl) _ _) ?_
  refine ex_tr (br_ff (by kernel_rfl) _ _) ?_
  refine ex_tr (br_ff (by kernel_rfl) _ _) ?_
  refine ex_tr (br_ff (by kernel_rfl) _ _) ?_
  refine ex_tr (br_ff (by kernel_rfl) _ _) ?_
  refine ex_tr (br_ff (by kernel_rfl) _ _) ?_
  refine ex_tr (br_ff (by kernel_rfl) _ _) ?_
  refine ex_tr (br_tt (by kernel_rfl) _ _) ?_
  refine ex_tr (bneqW _ _ _) ?_
  refine ex_tr (asB_b _ _) ?_
  refine ex_tr (or_V (d := !Nat.beq b 0) (by rw [bneqV, asBV_b]) _) ?_
  have e : wV [124, 124] a b = bW ((!Nat.beq a 0) || (!Nat.beq b 0)) := by
   have e0 : wV [124, 124] a b = bW (notQ (eqQ (sgW a) (Int.ofNat 0)) || notQ (eqQ (sgW b) (Int.ofNat 0))) := by kernel_rfl
   rw [e0, sg_zero ha, sg_zero hb]
   congr 1
   rw [show Nat.beq a 0 = decide (a = 0) by rw [Bool.eq_iff_iff, Nat.beq_eq, decide_eq_true_iff], show Nat.beq b 0 = decide (b = 0) by rw [Bool.eq_iff_iff, Nat.beq_eq, decide_eq_true_iff]]
  have eK : cW [124, 124] a b = .agg [iv 1, wv (bW ((!Nat.beq a 0) || (!Nat.beq b 0))), uv 0, .str [], iv 0] := by
   have e1 : bW (wK [124, 124]) = 1 := by kernel_rfl
   show AV.agg [iv (bW (wK [124, 124])), wv (wV [124, 124] a b), uv 0, .str [], iv 0] = _
   rw [e, e1]
  have e2 : wK [124, 124] = true := by kernel_rfl
  rw [eK, e2]
  exact ret_of_gc (by kernel_rfl)
 have hK : wK s = false := by unfold wK; rw [if_neg h0, if_neg h1, if_neg h2, if_neg h3, if_neg h4, if_neg h5, if_neg h6, if_neg h7, if_neg h8, if_neg h9, if_neg h10, if_neg h11, if_neg h12, if_neg h13, if_neg h14, if_neg h15, if_neg h16, if_neg h17]
 have hV : wV s a b = 0 := by unfold wV; rw [if_neg h0, if_neg h1, if_neg h2, if_neg h3, if_neg h4, if_neg h5, if_neg h6, if_neg h7, if_neg h8, if_neg h9, if_neg h10, if_neg h11, if_neg h12, if_neg h13, if_neg h14, if_neg h15, if_neg h16, if_neg h17]
 have eK : cW s a b = .agg [iv 0, wv 0, uv 0, .str [], iv 0] := by
  show AV.agg [iv (bW (wK s)), wv (wV s a b), uv 0, .str [], iv 0] = _
  rw [hV, hK]; rfl
 rw [eK, hK]
 rw [SF_900, find18, enter18]
 unfold S18_0
 refine ex_tr (c37 _ _ _) ?_
 refine ex_tr (asI_iv _ _) ?_
 refine ex_tr (c37 _ _ _) ?_
 refine ex_tr (asI_iv _ _) ?_
 refine ex_tr (br_ff (eqL_no h0) _ _) ?_
 refine ex_tr (br_ff (eqL_no h1) _ _) ?_
 refine ex_tr (br_ff (eqL_no h2) _ _) ?_
 refine ex_tr (br_ff (eqL_no h3) _ _) ?_
 refine ex_tr (br_ff (eqL_no h4) _ _) ?_
 refine ex_tr (br_ff (eqL_no h5) _ _) ?_
 refine ex_tr (br_ff (eqL_no h6) _ _) ?_
 refine ex_tr (br_ff (eqL_no h7) _ _) ?_
 refine ex_tr (br_ff (eqL_no h8) _ _) ?_
 refine ex_tr (br_ff (eqL_no h9) _ _) ?_
 refine ex_tr (br_ff (eqL_no h10) _ _) ?_
 refine ex_tr (br_ff (eqL_no h11) _ _) ?_
 refine ex_tr (br_ff (eqL_no h12) _ _) ?_
 refine ex_tr (br_ff (eqL_no h13) _ _) ?_
 refine ex_tr (br_ff (eqL_no h14) _ _) ?_
 refine ex_tr (br_ff (eqL_no h15) _ _) ?_
 refine ex_tr (br_ff (eqL_no h16) _ _) ?_
 refine ex_tr (br_ff (eqL_no h17) _ _) ?_
 exact ret_of_gc (by kernel_rfl)
end
end Go.Proofs.YtakcpnpeadkfpaaGreatDoor.Lg
