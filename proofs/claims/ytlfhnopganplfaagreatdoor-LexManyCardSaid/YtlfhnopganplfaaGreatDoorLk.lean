/- LexMany: a round of the lexer's loop, its ends, and the lexer at semicolons and blanks. -/
import Derived.Test.YtlfhnopganplfaaGreatDoorLj
set_option linter.unusedVariables false
set_option linter.unusedSimpArgs false
set_option linter.unusedSectionVars false
set_option maxRecDepth 20000
namespace Go.Proofs.YtlfhnopganplfaaGreatDoor.Lx
open Go Go.Proofs.YtlfhnopganplfaaGreatDoor.Ev Go.Proofs.YtlfhnopganplfaaGreatDoor.Sx
noncomputable section
def pA : Pos := HP.nxQ (gH 0)
def pB : Pos := HP.nxQ (HP.newQ (gH 0) (.cells true [.nils]))
def pC : Pos := HP.nxQ (HP.newQ (HP.newQ (gH 0) (.cells true [.nils])) (.cells true [(kI 0)]))
theorem a2_is (m : Int) : a2 m = .ptr pA 0 := by kernel_rfl
theorem a3_is (m : Int) : a3 m = .ptr pB 0 := by kernel_rfl
theorem a4_is (m : Int) : a4 m = .ptr pC 0 := by kernel_rfl
theorem pAB : pA.toNat < pB.toNat := by decide +kernel
theorem pBC : pB.toNat < pC.toNat := by decide +kernel
/-- What the lexer's own cells hold. -/
structure Vw (h : HP) (i at' : Nat) (out : AV) : Prop where
  g2 : HP.get h pA = some (.cells true [out])
  g3 : HP.get h pB = some (.cells true [iv at'])
  g4 : HP.get h pC = some (.cells true [iv 0])
  nx : pC.toNat < (HP.nxQ h).toNat
  o : OutOk h i out pC.toNat
abbrev dX : List ADef := [⟨9, [.ptr pA 0, .ptr pB 0, .ptr pC 0]⟩]
theorem d9_is (m : Int) : d9 m = dX := by kernel_rfl
theorem out_len {h : HP} {i : Nat} {out : AV} {lo : Nat} (o : OutOk h i out lo) (F : AV → Res2) : lenC out F = F (iv i) := by
  rcases o with ⟨rfl, rfl⟩ | ⟨c, vs, rfl, _⟩ <;> rfl
theorem out_ne {h : HP} {i : Nat} {out : AV} {lo : Nat} (o : OutOk h i out lo) {b : Pos} (hb : b.toNat ≤ lo ∨ (HP.nxQ h).toNat ≤ b.toNat) : ∀ c o n k, out = .slice c o n k → b ≠ c := by
  intro c o' n k e
  rcases o with ⟨_, rfl⟩ | ⟨c', vs, rfl, _, _, h1, h2⟩
  · cases e
  · injection e with e1; subst e1; exact neT (by omega)
theorem out_one {h : HP} {i : Nat} {out : AV} {lo : Nat} (o : OutOk h i out lo) : allOne [out] = true := by
  rcases o with ⟨_, rfl⟩ | ⟨c', vs, rfl, _⟩ <;> rfl
theorem OutOk.of {h h' : HP} {i : Nat} {out : AV} {lo : Nat} (o : OutOk h i out lo) (g : ∀ b, b.toNat < (HP.nxQ h).toNat → lo < b.toNat → HP.get h' b = HP.get h b) (n : (HP.nxQ h).toNat ≤ (HP.nxQ h').toNat) : OutOk h' i out lo := by
  rcases o with x | ⟨c, vs, e, h1, h2, h3, h4⟩
  · exact .inl x
  · exact .inr ⟨c, vs, e, by rw [g c h4 h3]; exact h1, h2, h3, by omega⟩
abbrev tC (i : Nat) : List AV := [iv 4, .str [59], iv i]
theorem bsl_ok (i : Nat) (out : AV) (h : HP) (k : AV → HP → Res2) : (obQ (evA (.bsl [(kI 0), (.str []), (kI 0)] 1 [⟨0, 3, (.c (.agg (tC i)))⟩]) .leaf) fun r23 => eff (.app 3 32 (.c out) (.c (vkV r23.2 (HP.nxQ h)))) (HP.newQ h r23.1) k) = eff (.app 3 32 (.c out) (.c (.slice (HP.nxQ h) 0 1 (.exact 1)))) (HP.newQ h (.cells true (tC i))) k := by kernel_rfl
section
variable {n M : Nat} {s : LN} {i : Nat} {out : AV} {h : HP} {g : Gx}
/-- A round: a token, and the gap behind it. -/
theorem it_ok (v : Vw h i i out) (hi : i < 2500) (hlt : i < s.length) (t : T1 s i) {j : Nat} (hj : j ≤ 100000) (gp : ∀ h, SF tabP (n + 1) 10 [.str s, iv (i + 1)] h .no = some (.ret (iv j) h, .no)) :
    ∃ h' out', S7_1b (SF tabP (n + 1)) M g s (.ptr pA 0) (.ptr pB 0) (.ptr pC 0) h dX = g s (.ptr pA 0) (.ptr pB 0) (.ptr pC 0) h' dX ∧ Vw h' (i + 1) j out' := by
  have hAB := pAB
  have hBC := pBC
  have hn := v.nx
  unfold S7_1b
  generalize hq : HP.nxQ h = q at hn
  -- the token's cell
  have g18 : HP.get (HP.newQ h (.cells true [(kI 0), (.str []), (kI 0)])) q = some (.cells true [(kI 0), (.str []), (kI 0)]) := by rw [getN, hq, if_pos rfl]
  have x1 : ∀ F, stsC 3 (.ptr q 0) (semi i) (HP.newQ h (.cells true [(kI 0), (.str []), (kI 0)])) F = F (HP.putQ (HP.newQ h (.cells true [(kI 0), (.str []), (kI 0)])) q (some (.cells true (tC i)))) := fun F => sts_of g18 rfl rfl rfl F
  generalize hh19 : HP.putQ (HP.newQ h (.cells true [(kI 0), (.str []), (kI 0)])) q (some (.cells true (tC i))) = h19 at x1
  have n19 : (HP.nxQ h19).toNat = q.toNat + 1 := by rw [← hh19, nxP, nxN, hq]
  have o19 : ∀ b, b.toNat < q.toNat → HP.get h19 b = HP.get h b := fun b hb => by rw [← hh19, getP, if_neg (neT (by omega)), getN, hq, if_neg (neT (by omega))]
  have q19 : HP.get h19 q = some (.cells true (tC i)) := by rw [← hh19, getP, if_pos rfl]
  -- the append's argument
  have n24 : (HP.nxQ (HP.newQ h19 (.cells true (tC i)))).toNat = q.toNat + 2 := by rw [nxN, n19]
  have o24 : ∀ b, b.toNat < q.toNat → HP.get (HP.newQ h19 (.cells true (tC i))) b = HP.get h b := fun b hb => by rw [getN, if_neg (neT (by omega)), o19 b hb]
  have q24 : HP.get (HP.newQ h19 (.cells true (tC i))) q = some (.cells true (tC i)) := by rw [getN, if_neg (neT (by omega)), q19]
  have r24 : HP.get (HP.newQ h19 (.cells true (tC i))) (HP.nxQ h19) = some (.cells true (tC i)) := by rw [getN, if_pos rfl]
  have v24 : OutOk (HP.newQ h19 (.cells true (tC i))) i out pC.toNat := v.o.of (fun b hb _ => o24 b (by rw [hq] at hb; exact hb)) (by rw [n24, hq]; omega)
  obtain ⟨h25, out', ap, gr, ok25, c', hc', hc2⟩ := app_ok (q := HP.nxQ h19) (k := .exact 1) v24 (by omega) r24 rfl (by rw [n24]; omega)
  have n25 : q.toNat + 2 ≤ (HP.nxQ h25).toNat := by have := gr.1; rw [n24] at this; exact this
  have o25 : ∀ b, b.toNat ≤ pC.toNat → HP.get h25 b = HP.get h b := fun b hb => by rw [gr.2 b (by rw [n24]; omega) (out_ne v.o (.inl hb)), o24 b (by omega)]
  have q25 : HP.get h25 q = some (.cells true (tC i)) := by rw [gr.2 q (by rw [n24]; omega) (out_ne v.o (.inr (by rw [hq]; exact Nat.le_refl _))), q24]
  have g2 : HP.get h25 pA = some (.cells true [out]) := by rw [o25 pA (by omega)]; exact v.g2
  have g3 : HP.get h25 pB = some (.cells true [iv i]) := by rw [o25 pB (by omega)]; exact v.g3
  have g4 : HP.get h25 pC = some (.cells true [iv 0]) := by rw [o25 pC (Nat.le_refl _)]; exact v.g4
  have one' : allOne [out'] = true := by rw [hc']; rfl
  -- out, at
  have g26 : HP.get (HP.putQ h25 pA (some (.cells true [out']))) pB = some (.cells true [iv i]) := by rw [getP, if_neg (neT (by omega)), g3]
  have q26 : HP.get (HP.putQ h25 pA (some (.cells true [out']))) q = some (.cells true (tC i)) := by rw [getP, if_neg (neT (by omega)), q25]
  have g27 : HP.get (HP.putQ (HP.putQ h25 pA (some (.cells true [out']))) pB (some (.cells true [iv (i + 1)]))) pB = some (.cells true [iv (i + 1)]) := by rw [getP, if_pos rfl]
  refine ⟨HP.putQ (HP.putQ (HP.putQ h25 pA (some (.cells true [out']))) pB (some (.cells true [iv (i + 1)]))) pB (some (.cells true [iv j])), out', ?_, ⟨?_, ?_, ?_, ?_, ?_⟩⟩
  · refine (ldI_of v.g3 _).trans ?_
    try dsimp only
    rw [lenL_eq, lt_nat, decide_eq_true hlt, br_t]
    refine (ldI_of v.g3 _).trans ?_
    refine (calC_of (tokP_1 (n := n) t h) _ _).trans ?_
    rw [hq]
    refine (x1 _).trans ?_
    refine (cell_of' (show HP.get h19 pA = some (.cells true [out]) from by rw [o19 pA (by omega)]; exact v.g2) _).trans ?_
    refine (out_len v.o _).trans ?_
    refine (asI_iv _ _).trans ?_
    try dsimp only
    rw [eq_nat, decide_eq_false (by omega), br_f]
    refine (cell_of' (show HP.get h19 pA = some (.cells true [out]) from by rw [o19 pA (by omega)]; exact v.g2) _).trans ?_
    refine (cells_of q19 _).trans ?_
    refine (bsl_ok i out h19 _).trans ?_
    refine (ap _).trans ?_
    refine (sto_of g2 one' _).trans ?_
    refine (ldI_of g26 _).trans ?_
    refine (ldS_of q26 _).trans ?_
    try dsimp only
    rw [show wrQ .i64 (addQ (Int.ofNat i) (Int.ofNat (lenL [59]))) = Int.ofNat (i + 1) from wr_nat (n := i + 1) (by omega)]
    refine (sto_of g26 rfl _).trans ?_
    refine (ldI_of g27 _).trans ?_
    refine (calC_of (gp _) _ _).trans ?_
    refine (asI_iv _ _).trans ?_
    refine (sto_of g27 rfl _).trans ?_
    rfl
  · rw [getP, if_neg (neT (by omega)), getP, if_neg (neT (by omega)), getP, if_pos rfl]
  · rw [getP, if_pos rfl]
  · rw [getP, if_neg (neT (by omega)), getP, if_neg (neT (by omega)), getP, if_neg (neT (by omega)), g4]
  · rw [nxP, nxP, nxP]; omega
  · refine ok25.of (fun b _ hb => ?_) (by rw [nxP, nxP, nxP]; exact Nat.le_refl _)
    rw [getP, if_neg (neT (by omega)), getP, if_neg (neT (by omega)), getP, if_neg (neT (by omega))]
/- The ends. -/
theorem find9 : tabP.run 9 = S9 := by kernel_rfl
/-- The deferred function, where nothing was thrown. -/
theorem def_ok (h : HP) : ∃ h', SF tabP (n + 1) 9 [.ptr pA 0, .ptr pB 0, .ptr pC 0] h .returning = some (.ret (.tup []) h', .returning) ∧ ∀ b, b.toNat < (HP.nxQ h).toNat → HP.get h' b = HP.get h b := by
  rw [SF_succ, find9]
  refine ⟨HP.putQ (HP.newQ h (.cells true [(kI 0), (kI 0)])) (HP.nxQ h) (some (.cells true [iv 0, iv 0])), ?_, fun b hb => ?_⟩
  · show S9_0 (SF tabP n) n (.ptr pA 0) (.ptr pB 0) (.ptr pC 0) h .returning = _
    unfold S9_0
    refine Eq.trans (b := stsC 2 (.ptr (HP.nxQ h) 0) (.agg [iv 0, iv 0]) (HP.newQ h (.cells true [(kI 0), (kI 0)])) fun h3 => some (.ret (.tup []) h3, .returning)) (by kernel_rfl) ?_
    exact sts_of (show HP.get (HP.newQ h (.cells true [(kI 0), (kI 0)])) (HP.nxQ h) = some (.cells true [(kI 0), (kI 0)]) by rw [getN, if_pos rfl]) rfl rfl rfl _
  · rw [getP, if_neg (neT (by omega)), getN, if_neg (neT (by omega))]
abbrev fX : T AV := mkT [(p2, .ptr pA 0), (p3, .ptr pB 0), (p4, .ptr pC 0)]
theorem end_ok {x y z : AV} (hn : pC.toNat < (HP.nxQ h).toNat) (g2 : HP.get h pA = some (.cells true [x])) (g3 : HP.get h pB = some (.cells true [y])) (g4 : HP.get h pC = some (.cells true [z])) :
    ∃ h', XFn.endOf x7 (SF tabP (n + 1)) (.ret ⟨fX, h, dX, .no⟩) = some (.ret (.tup [x, y, z]) h', .no) ∧ ∀ b, b.toNat < (HP.nxQ h).toNat → HP.get h' b = HP.get h b := by
  have hAB := pAB
  have hBC := pBC
  obtain ⟨h', e, o⟩ := def_ok (n := n) h
  refine ⟨h', ?_, o⟩
  have e1 : XFn.endOf x7 (SF tabP (n + 1)) (.ret ⟨fX, h, dX, .no⟩) = ob (ob (SF tabP (n + 1) 9 [.ptr pA 0, .ptr pB 0, .ptr pC 0] h .returning) fun r => match r.1 with | .ret _ h' => some (settleA r.2, h') | .pan c h' => some (raisedA r.2 c, h')) fun r => match r.1 with
      | .returning => ob (Go.Proofs.YtlfhnopganplfaaGreatDoor.Ev.results x7.fn.res fX r.2) fun v => some (.ret v r.2, .no)
      | .panicking c => some (.pan c r.2, .no)
      | .no => none := by kernel_rfl
  rw [e1, e]
  show ob (Go.Proofs.YtlfhnopganplfaaGreatDoor.Ev.results x7.fn.res fX h') (fun v => (some (.ret v h', .no) : Res2)) = _
  have cv : ∀ (p : Pos) (x : AV), HP.get h' p = some (.cells true [x]) → cellV (.ptr p 0) h' = some x := fun p x g => by
    have e : cellV (.ptr p 0) h' = ob (HP.get h' p) fun k => match k with | .cells _ vs => nth vs 0 | _ => none := rfl
    rw [e, g]; rfl
  have r2 : resV (.cell p2) fX h' = some x := cv pA x (by rw [o pA (by omega)]; exact g2)
  have r3 : resV (.cell p3) fX h' = some y := cv pB y (by rw [o pB (by omega)]; exact g3)
  have r4 : resV (.cell p4) fX h' = some z := cv pC z (by rw [o pC (by omega)]; exact g4)
  unfold Go.Proofs.YtlfhnopganplfaaGreatDoor.Ev.results
  rw [show x7.fn.res = [.cell p2, .cell p3, .cell p4] from by kernel_rfl, mapO_cons, r2, mapO_cons, r3, mapO_cons, r4, mapO_nil]
  rfl
/-- All is read. -/
theorem exit_ok (v : Vw h i s.length out) (hi : i ≤ 2500) : ∃ h' c vs, S7_1b (SF tabP (n + 1)) M g s (.ptr pA 0) (.ptr pB 0) (.ptr pC 0) h dX = some (.ret (.tup [.slice c 0 (i + 1) (.spare 3), iv 0, iv 0]) h', .no) ∧ HP.get h' c = some (.cells true vs) := by
  have hAB := pAB
  have hBC := pBC
  have hn := v.nx
  unfold S7_1b
  generalize hq : HP.nxQ h = q at hn
  have n10 : (HP.nxQ (HP.newQ h (.cells true [iv 0, .str [], iv s.length]))).toNat = q.toNat + 1 := by rw [nxN, hq]
  have o10 : ∀ b, b.toNat < q.toNat → HP.get (HP.newQ h (.cells true [iv 0, .str [], iv s.length])) b = HP.get h b := fun b hb => by rw [getN, hq, if_neg (neT (by omega))]
  have q10 : HP.get (HP.newQ h (.cells true [iv 0, .str [], iv s.length])) q = some (.cells true [iv 0, .str [], iv s.length]) := by rw [getN, hq, if_pos rfl]
  have v10 : OutOk (HP.newQ h (.cells true [iv 0, .str [], iv s.length])) i out pC.toNat := v.o.of (fun b hb _ => o10 b (by rw [hq] at hb; exact hb)) (by rw [n10, hq]; omega)
  obtain ⟨h11, out', ap, gr, ok11, c', hc', hc2⟩ := app_ok (q := q) (k := .exact 1) v10 (by omega) q10 rfl (by rw [n10]; omega)
  have n11 : q.toNat + 1 ≤ (HP.nxQ h11).toNat := by have := gr.1; rw [n10] at this; exact this
  have o11 : ∀ b, b.toNat ≤ pC.toNat → HP.get h11 b = HP.get h b := fun b hb => by rw [gr.2 b (by rw [n10]; omega) (out_ne v.o (.inl hb)), o10 b (by omega)]
  have one' : allOne [out'] = true := by rw [hc']; rfl
  have g2 : HP.get h11 pA = some (.cells true [out]) := by rw [o11 pA (by omega)]; exact v.g2
  have g3 : HP.get (HP.putQ h11 pA (some (.cells true [out']))) pB = some (.cells true [iv s.length]) := by rw [getP, if_neg (neT (by omega)), o11 pB (by omega)]; exact v.g3
  have g4 : HP.get (HP.putQ (HP.putQ h11 pA (some (.cells true [out']))) pB (some (.cells true [iv 0]))) pC = some (.cells true [iv 0]) := by rw [getP, if_neg (neT (by omega)), getP, if_neg (neT (by omega)), o11 pC (Nat.le_refl _)]; exact v.g4
  obtain ⟨h', e, o⟩ := end_ok (n := n) (h := HP.putQ (HP.putQ (HP.putQ h11 pA (some (.cells true [out']))) pB (some (.cells true [iv 0]))) pC (some (.cells true [iv 0]))) (x := out') (y := iv 0) (z := iv 0) (by rw [nxP, nxP, nxP]; omega)
    (by rw [getP, if_neg (neT (by omega)), getP, if_neg (neT (by omega)), getP, if_pos rfl]) (by rw [getP, if_neg (neT (by omega)), getP, if_pos rfl]) (by rw [getP, if_pos rfl])
  rcases ok11 with ⟨e0, _⟩ | ⟨c, vs, ec, gcv, hl, h1, h2⟩
  · omega
  · refine ⟨h', c, vs, ?_, ?_⟩
    · refine (ldI_of v.g3 _).trans ?_
      try dsimp only
      rw [lenL_eq, lt_nat, decide_eq_false (by omega), br_f]
      unfold S7_0
      refine (cell_of' v.g2 _).trans ?_
      try dsimp only
      rw [lenL_eq, hq]
      refine (ap _).trans ?_
      refine (sto_of g2 one' _).trans ?_
      refine (sto_of g3 rfl _).trans ?_
      refine (sto_of g4 rfl _).trans ?_
      rw [← ec]
      exact e
    · rw [o c (by rw [nxP, nxP, nxP]; omega), getP, if_neg (neT (by omega)), getP, if_neg (neT (by omega)), getP, if_neg (neT (by omega)), gcv]
/-- As many tokens as may be, and one more. -/
theorem full_ok {a : Nat} (v : Vw h 2500 a out) (hlt : a < s.length) (t : T1 s a) : ∃ h', S7_1b (SF tabP (n + 1)) M g s (.ptr pA 0) (.ptr pB 0) (.ptr pC 0) h dX = some (.ret (.tup [.nils, iv a, iv 5]) h', .no) := by
  have hAB := pAB
  have hBC := pBC
  have hn := v.nx
  unfold S7_1b
  generalize hq : HP.nxQ h = q at hn
  have g18 : HP.get (HP.newQ h (.cells true [(kI 0), (.str []), (kI 0)])) q = some (.cells true [(kI 0), (.str []), (kI 0)]) := by rw [getN, hq, if_pos rfl]
  have x1 : ∀ F, stsC 3 (.ptr q 0) (semi a) (HP.newQ h (.cells true [(kI 0), (.str []), (kI 0)])) F = F (HP.putQ (HP.newQ h (.cells true [(kI 0), (.str []), (kI 0)])) q (some (.cells true (tC a)))) := fun F => sts_of g18 rfl rfl rfl F
  generalize hh19 : HP.putQ (HP.newQ h (.cells true [(kI 0), (.str []), (kI 0)])) q (some (.cells true (tC a))) = h19 at x1
  have n19 : (HP.nxQ h19).toNat = q.toNat + 1 := by rw [← hh19, nxP, nxN, hq]
  have o19 : ∀ b, b.toNat < q.toNat → HP.get h19 b = HP.get h b := fun b hb => by rw [← hh19, getP, if_neg (neT (by omega)), getN, hq, if_neg (neT (by omega))]
  have g2 : HP.get h19 pA = some (.cells true [out]) := by rw [o19 pA (by omega)]; exact v.g2
  have g3 : HP.get h19 pB = some (.cells true [iv a]) := by rw [o19 pB (by omega)]; exact v.g3
  have g3' : HP.get (HP.putQ h19 pA (some (.cells true [.nils]))) pB = some (.cells true [iv a]) := by rw [getP, if_neg (neT (by omega)), g3]
  have g4 : HP.get (HP.putQ (HP.putQ h19 pA (some (.cells true [.nils]))) pB (some (.cells true [iv a]))) pC = some (.cells true [iv 0]) := by rw [getP, if_neg (neT (by omega)), getP, if_neg (neT (by omega)), o19 pC (by omega)]; exact v.g4
  obtain ⟨h', e, o⟩ := end_ok (n := n) (h := HP.putQ (HP.putQ (HP.putQ h19 pA (some (.cells true [.nils]))) pB (some (.cells true [iv a]))) pC (some (.cells true [iv 5]))) (x := .nils) (y := iv a) (z := iv 5) (by rw [nxP, nxP, nxP]; omega)
    (by rw [getP, if_neg (neT (by omega)), getP, if_neg (neT (by omega)), getP, if_pos rfl]) (by rw [getP, if_neg (neT (by omega)), getP, if_pos rfl]) (by rw [getP, if_pos rfl])
  refine ⟨h', ?_⟩
  refine (ldI_of v.g3 _).trans ?_
  try dsimp only
  rw [lenL_eq, lt_nat, decide_eq_true hlt, br_t]
  refine (ldI_of v.g3 _).trans ?_
  refine (calC_of (tokP_1 (n := n) t h) _ _).trans ?_
  rw [hq]
  refine (x1 _).trans ?_
  refine (cell_of' g2 _).trans ?_
  refine (out_len v.o _).trans ?_
  refine (asI_iv _ _).trans ?_
  try dsimp only
  rw [eq_nat, decide_eq_true rfl, br_t]
  refine (ldI_of g3 _).trans ?_
  refine (sto_of g2 rfl _).trans ?_
  refine (br_tt (by kernel_rfl) _ _).trans ?_
  refine (sto_of g3' rfl _).trans ?_
  refine (sto_of g4 rfl _).trans ?_
  exact e
end
end
end Go.Proofs.YtlfhnopganplfaaGreatDoor.Lx
