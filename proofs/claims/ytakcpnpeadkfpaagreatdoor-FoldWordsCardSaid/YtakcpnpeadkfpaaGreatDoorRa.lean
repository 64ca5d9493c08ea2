/- A function's pieces, each in a base of its own; a loop over a map whose rounds, in whatever order, keep what is wanted. -/
import Derived.Test.YtakcpnpeadkfpaaGreatDoorFz
import Derived.Maps.RangeRun
set_option linter.unusedVariables false
set_option linter.unusedSimpArgs false
set_option linter.unusedSectionVars false
namespace Go.Proofs.YtakcpnpeadkfpaaGreatDoor.Ra
open Go Go.Proofs.YtakcpnpeadkfpaaGreatDoor.Ev
open Go.ChangeMaps (setBlock)
section
variable [Rho]
noncomputable def callS (t : ST) (n : Nat) : CallF := fun f as h => ob (SF t n f as h .no) fun r => some r.1
theorem callS_ok {P : Program} {t : ST} (hP : P.follows .mixedOrders = true) (ht : ST.Ok P t) (n : Nat) (w0 : World) : CallOk P w0 (callS t n) := by
  intro f as h fin he
  obtain ⟨r, hr, he⟩ := ob_eq (show (ob (SF t n f as h .no) fun r => some r.1) = some fin from he)
  simp only [Option.some.injEq] at he; subst he
  exact (fun_ok hP (ST.xok w0 ht) (ST.tab_ok ht) n).2 f as h r.1 (by show (ob (evF t.prims t.tab n f as h .no) fun r => some r.1) = _; rw [SF_ok ht n _ _ _ _ _ hr]; rfl)
/-- A state of the evaluator and one of the model, no call above being in the mode of leaving. -/
structure S0 (w0 : World) (nt : Nat) (φ : Phi) (s : St) (a : Act) (w : World) : Prop where
  fr : FrRel φ nt a.tmps s.fr
  rel : Rel w0 φ s.h w
  df : DfRel φ a.defers s.df
  u : s.u = .no
theorem fr_add {φ : Phi} {nt : Nat} {tmps : Array Value} {fr : T AV} (h : FrRel φ nt tmps fr) {d : Nat} {v : AV} (hv : RV φ (tmps.getD d undef) v) : FrRel φ nt tmps (T.set v (posOf d) fr) := by
  refine ⟨h.gl, h.size, fun t av ht => ?_⟩
  rw [T.get_set] at ht
  split at ht
  · rename_i e'
    have := posOf_inj e'; subst this
    simp only [Option.some.injEq] at ht; subst ht; exact hv
  · exact h.val t av ht
theorem piece {P : Program} {call : CallF} {w0 : World} (hP : P.follows .mixedOrders = true) (hc : CallOk P w0 call) {n nt : Nat} {c : Code} {s s' : St} {φ : Phi} {a : Act} {w : World} (h : S0 w0 nt φ s a w) (he : evC call n (trCode P nt c) s = some (.normal s')) :
    c.wp P (fun e a' w' => e = .normal ∧ ∃ φ', S0 w0 nt φ' s' a' w' ∧ φ.le φ') a w := by
  intro b k cs
  let B : Base := ⟨w0, φ, s.h, w, nt, cs, false⟩
  have sr : SR B φ s a cs w := ⟨h.fr, h.rel, .refl _ _ _, h.df, by rw [h.u]; rfl, by simp [B, h.u]⟩
  obtain ⟨e, a', cs', w', hq, harr⟩ := code_ok (B := B) hc hP n c s φ a cs w _ sr he b k (by simp [B])
  obtain ⟨rfl, φ', sr'⟩ := hq
  have hu : s'.u = .no := sr'.dd.1 rfl
  have hcs : cs' = cs := by have := sr'.cs; rw [hu] at this; exact this
  subst hcs
  exact ⟨.normal, a', w', ⟨rfl, φ', ⟨sr'.fr, sr'.rel, sr'.df, hu⟩, sr'.ext.le⟩, harr⟩
theorem piece_ret {P : Program} {call : CallF} {w0 : World} (hP : P.follows .mixedOrders = true) (hc : CallOk P w0 call) {n nt : Nat} {c : Code} {s s' : St} {φ : Phi} {a : Act} {w : World} (h : S0 w0 nt φ s a w) (he : evC call n (trCode P nt c) s = some (.ret s')) :
    c.wp P (fun e a' w' => e = .ret ∧ ∃ φ', S0 w0 nt φ' s' a' w' ∧ φ.le φ') a w := by
  intro b k cs
  let B : Base := ⟨w0, φ, s.h, w, nt, cs, false⟩
  have sr : SR B φ s a cs w := ⟨h.fr, h.rel, .refl _ _ _, h.df, by rw [h.u]; rfl, by simp [B, h.u]⟩
  obtain ⟨e, a', cs', w', hq, harr⟩ := code_ok (B := B) hc hP n c s φ a cs w _ sr he b k (by simp [B])
  obtain ⟨rfl, φ', sr'⟩ := hq
  have hu : s'.u = .no := sr'.dd.1 rfl
  have hcs : cs' = cs := by have := sr'.cs; rw [hu] at this; exact this
  subst hcs
  exact ⟨.ret, a', w', ⟨rfl, φ', ⟨sr'.fr, sr'.rel, sr'.df, hu⟩, sr'.ext.le⟩, harr⟩
end
section
variable {P : Program} {w : World}
theorem wpOps_value {ops : Array Oper} {i : Nat} {o : Oper} {rest : List Nat} {Q : Exit → Act → World → Prop} {a : Act} {w w' : World} {v : Value} (hi : ops[i]? = some o) (hg : o.guard = none) (hr : (execOp a.eval o).run P w = .ok (.value v) w')
    (hn : wpOps P ops Q rest (a.put o.dst v) w') : wpOps P ops Q (i :: rest) a w := by
  simp only [wpOps, hi]
  rw [if_pos (by simp [Region.wanted, hg])]
  left
  show o.upon P a _ Q _
  rw [hr]; exact hn
theorem exec_next {ρ : Operand → Value} {o : Oper} {it : Tmp} {w w' : World} {v : Value} (ho : o.op = .next (.tmp it) false) (h : (Instr.next (ρ (.tmp it)) false o.type).run P w = .ok v w') : (execOp ρ o).run P w = .ok (.value v) w' := by
  obtain ⟨dst, op, ty, pos, af, g⟩ := o
  simp only at ho h; subst ho
  simp [execOp, h]
theorem exec_extract {ρ : Operand → Value} {o : Oper} {t : Tmp} {i : Nat} {w : World} {vs : Array Value} {v : Value} (ho : o.op = .extract (.tmp t) i) (ht : ρ (.tmp t) = .tuple vs) (h : vs[i]? = some v) : (execOp ρ o).run P w = .ok (.value v) w := by
  obtain ⟨dst, op, ty, pos, af, g⟩ := o
  simp only at ho; subst ho
  simp [execOp, ht, Instr.extract, h]
theorem exec_entry {ρ : Operand → Value} {o : Oper} {it : Tmp} {w w' : World} {v : Value} (ho : o.op = .entry (.tmp it)) (h : (Instr.entry (ρ (.tmp it))).run P w = .ok v w') : (execOp ρ o).run P w = .ok (.value v) w' := by
  obtain ⟨dst, op, ty, pos, af, g⟩ := o
  simp only at ho; subst ho
  simp [execOp, h]
theorem exec_assign {ρ : Operand → Value} {o : Oper} {t : Tmp} {w : World} (ho : o.op = .assign (.tmp t)) : (execOp ρ o).run P w = .ok (.value (ρ (.tmp t))) w := by
  obtain ⟨dst, op, ty, pos, af, g⟩ := o
  simp only at ho; subst ho
  simp [execOp]
theorem getD_put_ne {a : Act} {d t : Nat} {v : Value} (h : t ≠ d) : (a.put (some d) v).tmps.getD t undef = a.tmps.getD t undef := by
  show (a.tmps.setIfInBounds d v).getD t undef = _
  simp only [Array.getD_eq_getD_getElem?, Array.getElem?_setIfInBounds]
  rw [if_neg (fun e => h e.symm)]
theorem getD_put_same {a : Act} {d : Nat} {v : Value} (h : d < a.tmps.size) : (a.put (some d) v).tmps.getD d undef = v := by
  show (a.tmps.setIfInBounds d v).getD d undef = _
  simp [Array.getD_eq_getD_getElem?, Array.getElem?_setIfInBounds, h]
theorem turned_set {w1 : World} (hw : w1 = w ∨ w1 = w.drew) {b : Nat} {o : Obj} (hb : b < w.heap.size) : Turned w (setBlock w1 b o) b o := by
  have key : ∀ i, (w.heap.setIfInBounds b o)[i]? = if i = b then some o else w.heap[i]? := by
    intro i
    rw [Array.getElem?_setIfInBounds]
    by_cases e : i = b
    · subst e; simp [hb]
    · rw [if_neg (fun h => e h.symm), if_neg e]
  have hh : (setBlock w1 b o).heap = w.heap.setIfInBounds b o := by rcases hw with rfl | rfl <;> rfl
  refine ⟨fun i => by rw [hh]; exact key i, by rw [hh]; simp, ?_, ?_, ?_⟩ <;> (rcases hw with rfl | rfl <;> rfl)

theorem put_df (a : Act) (d : Option Tmp) (v : Value) : (a.put d v).defers = a.defers := by cases d <;> rfl
/-- The loop's round, but for what it does with an entry. -/
structure Shape (id : Nat) (it d1 d2 d3 d4 d5 d6 d7 : Tmp) (o1 o2 o3 o4 o5 o6 o7 : Oper) : Prop where
  p1 : o1.guard = none ∧ o1.dst = some d1 ∧ o1.op = .next (.tmp it) false
  p2 : o2.guard = none ∧ o2.dst = some d2 ∧ o2.op = .extract (.tmp d1) 0
  p3 : o3.guard = none ∧ o3.dst = some d3 ∧ o3.op = .entry (.tmp it)
  p4 : o4.guard = none ∧ o4.dst = some d4 ∧ o4.op = .extract (.tmp d3) 0
  p5 : o5.guard = none ∧ o5.dst = some d5 ∧ o5.op = .extract (.tmp d3) 1
  p6 : o6.guard = none ∧ o6.dst = some d6 ∧ o6.op = .assign (.tmp d4)
  p7 : o7.guard = none ∧ o7.dst = some d7 ∧ o7.op = .assign (.tmp d5)
  nd : [it, d1, d2, d3, d4, d5, d6, d7].Nodup
theorem range_all {id i1 i2 i3 : Nat} {it d1 d2 d3 d4 d5 d6 d7 : Tmp} {o1 o2 o3 o4 o5 o6 o7 : Oper} {rest : Code} (sh : Shape id it d1 d2 d3 d4 d5 d6 d7 o1 o2 o3 o4 o5 o6 o7) (nt : Nat) (hlt : ∀ d ∈ [d1, d2, d3, d4, d5, d6, d7], d < nt)
    {r bm n : Nat} {ents : Array MapEntry} (hwf : MapWf ents n) (hne : bm ≠ r) (I : Act → World → Prop) (hnt : ∀ a w, I a w → nt ≤ a.tmps.size)
    (hside : ∀ a w a' w' o, I a w → (∀ t, t ∉ [d1, d2, d3, d4, d5, d6, d7] → a'.tmps.getD t undef = a.tmps.getD t undef) → a'.tmps.size = a.tmps.size → a'.defers = a.defers → (w' = w ∨ Turned w w' r o) → I a' w')
    (hround : ∀ e ∈ ents.toList, ∀ a w, I a w → a.tmps.getD it undef = .pointer (some ⟨r, 0, none⟩) → a.tmps.getD d6 undef = e.key → a.tmps.getD d7 undef = e.val →
      rest.wp P (fun ex a' w' => ex = .normal ∧ I a' w' ∧ a'.tmps.getD it undef = .pointer (some ⟨r, 0, none⟩) ∧ w'.heap[r]? = w.heap[r]? ∧ w'.heap[bm]? = w.heap[bm]?) a w)
    {a : Act} {w : World} (h0 : I a w) (hit : a.tmps.getD it undef = .pointer (some ⟨r, 0, none⟩)) (hr : w.heap[r]? = some (.mapIter (some bm) n #[] n)) (hbm : w.heap[bm]? = some (.map ents n)) :
    (Code.block id (.loop (.seq (.region i1 #[o1, o2] false) (.seq (.cond (.tmp d2) .skip (.exit id)) (.block i3 (.seq (.region i2 #[o3, o4, o5, o6, o7] false) rest)))))).wp P (fun ex a' w' => ex = .normal ∧ I a' w') a w := by
  obtain ⟨⟨a1, b1, c1⟩, ⟨a2, b2, c2⟩, ⟨a3, b3, c3⟩, ⟨a4, b4, c4⟩, ⟨a5, b5, c5⟩, ⟨a6, b6, c6⟩, ⟨a7, b7, c7⟩, nd⟩ := sh
  simp only [List.nodup_cons, List.mem_cons, List.not_mem_nil, or_false, not_or, List.nodup_nil, and_true] at nd
  obtain ⟨⟨n01, n02, n03, n04, n05, n06, n07⟩, ⟨n12, n13, n14, n15, n16, n17⟩, ⟨n23, n24, n25, n26, n27⟩, ⟨n34, n35, n36, n37⟩, ⟨n45, n46, n47⟩, ⟨n56, n57⟩, n67, _⟩ := nd
  have L := fun d hd => hlt d hd
  refine wp_block (wp_loop (fun a w => ∃ seen c, I a w ∧ a.tmps.getD it undef = .pointer (some ⟨r, 0, none⟩) ∧ w.heap[r]? = some (.mapIter (some bm) n seen c) ∧ n ≤ c ∧ w.heap[bm]? = some (.map ents n))
    (fun _ w => match w.heap[r]? with | some (.mapIter _ _ seen _) => (leftOf ents seen).size | _ => 0) ⟨#[], n, h0, hit, hr, Nat.le_refl _, hbm⟩ ?_)
  rintro a' w' ⟨seen, ck, hI, hitv, hit, hnc, hbm⟩
  have hblt : r < w'.heap.size := by
    rcases Nat.lt_or_ge r w'.heap.size with h | h
    · exact h
    · rw [Array.getElem?_eq_none h] at hit; simp at hit
  have hsz := hnt a' w' hI
  refine wp_seq (wp_region ?_)
  rw [show List.range (#[o1, o2] : Array Oper).size = [0, 1] from rfl]
  have ev1 : a'.eval (.tmp it) = .pointer (some ⟨r, 0, none⟩) := hitv
  have hs1 : d1 < a'.tmps.size := Nat.lt_of_lt_of_le (L d1 (by simp)) hsz
  have hs2 : ∀ v, d2 < (a'.put (some d1) v).tmps.size := fun v => by show _ < (a'.tmps.setIfInBounds _ _).size; simp; exact Nat.lt_of_lt_of_le (L d2 (by simp)) hsz
  have side2 : ∀ v v' t, t ∉ [d1, d2, d3, d4, d5, d6, d7] → ((a'.put (some d1) v).put (some d2) v').tmps.getD t undef = a'.tmps.getD t undef := fun v v' t ht => by
    simp only [List.mem_cons, List.not_mem_nil, or_false, not_or] at ht
    rw [getD_put_ne ht.2.1, getD_put_ne ht.1]
  rcases run_next_at (P := P) w' o1.type r bm n ck seen ents n hit hbm hwf.1 hnc with ⟨hz, hrun⟩ | ⟨e, hmem, w1, hw1, hrun⟩
  · refine wpOps_value (o := o1) (by simp) a1 (exec_next c1 (by rw [ev1]; exact hrun)) ?_
    rw [b1]
    refine wpOps_value (o := o2) (v := .bool false) (by simp) a2 (exec_extract c2 (by show (a'.put (some d1) _).tmps.getD d1 undef = _; exact getD_put_same hs1) (by simp)) ?_
    rw [b2]
    refine wp_seq (wp_cond_false (getD_put_same (hs2 _)) (wp_exit ?_))
    simp only [Exit.then, Exit.inBlock]
    rw [if_pos trivial]
    exact ⟨trivial, hside a' w' _ w' (.mapIter none 0 #[] 0) hI (side2 _ _) (by show ((a'.tmps.setIfInBounds _ _).setIfInBounds _ _).size = _; simp) (by rw [put_df, put_df]) (.inl rfl)⟩
  · obtain ⟨hme, hns⟩ := mem_left hmem
    have tw := turned_set (o := .mapIter (some bm) n (seen.push e.born) n) hw1 hblt
    generalize hw2 : setBlock w1 r (.mapIter (some bm) n (seen.push e.born) n) = w2 at tw hrun
    refine wpOps_value (o := o1) (by simp) a1 (exec_next c1 (by rw [ev1]; exact hrun)) ?_
    rw [b1]
    refine wpOps_value (o := o2) (v := .bool true) (by simp) a2 (exec_extract c2 (by show (a'.put (some d1) _).tmps.getD d1 undef = _; exact getD_put_same hs1) (by simp)) ?_
    rw [b2]
    have cond2 : ((a'.put (some d1) (.tuple #[.bool true, e.key, e.val])).put (some d2) (.bool true)).eval (.tmp d2) = .bool true := getD_put_same (hs2 _)
    have s2 := side2 (.tuple #[.bool true, e.key, e.val]) (.bool true)
    generalize hA2 : (a'.put (some d1) (.tuple #[.bool true, e.key, e.val])).put (some d2) (.bool true) = A2 at cond2 s2
    have sz2 : A2.tmps.size = a'.tmps.size := by subst hA2; show ((a'.tmps.setIfInBounds _ _).setIfInBounds _ _).size = _; simp
    have df2 : A2.defers = a'.defers := by subst hA2; rw [put_df, put_df]
    have itv2 : A2.tmps.getD it undef = .pointer (some ⟨r, 0, none⟩) := by rw [s2 it (by simp only [List.mem_cons, List.not_mem_nil, or_false, not_or]; exact ⟨n01, n02, n03, n04, n05, n06, n07⟩)]; exact hitv
    clear hA2
    refine wp_seq (wp_cond_true cond2 (wp_skip ?_))
    show (Code.block i3 _).wp P _ A2 w2
    refine wp_block (wp_seq (wp_region ?_))
    rw [show List.range (#[o3, o4, o5, o6, o7] : Array Oper).size = [0, 1, 2, 3, 4] from rfl]
    have hit2 : w2.heap[r]? = some (.mapIter (some bm) n (seen.push e.born) n) := by rw [tw.heap, if_pos rfl]
    have hbm2 : w2.heap[bm]? = some (.map ents n) := by rw [tw.heap, if_neg hne]; exact hbm
    have hent := run_entry_at (P := P) w2 r bm n seen ents n e hit2 hbm2 hme hwf.2
    have l3 : d3 < A2.tmps.size := by rw [sz2]; exact Nat.lt_of_lt_of_le (L d3 (by simp)) hsz
    have l4 : d4 < A2.tmps.size := by rw [sz2]; exact Nat.lt_of_lt_of_le (L d4 (by simp)) hsz
    have l5 : d5 < A2.tmps.size := by rw [sz2]; exact Nat.lt_of_lt_of_le (L d5 (by simp)) hsz
    have l6 : d6 < A2.tmps.size := by rw [sz2]; exact Nat.lt_of_lt_of_le (L d6 (by simp)) hsz
    have l7 : d7 < A2.tmps.size := by rw [sz2]; exact Nat.lt_of_lt_of_le (L d7 (by simp)) hsz
    refine wpOps_value (o := o3) (by simp) a3 (exec_entry c3 (by rw [show A2.eval (.tmp it) = _ from itv2]; exact hent)) ?_
    rw [b3]
    refine wpOps_value (o := o4) (v := e.key) (by simp) a4 (exec_extract c4 (by show (A2.put (some d3) _).tmps.getD d3 undef = _; exact getD_put_same l3) (by simp)) ?_
    rw [b4]
    refine wpOps_value (o := o5) (v := e.val) (by simp) a5 (exec_extract c5 (by show ((A2.put (some d3) _).put (some d4) _).tmps.getD d3 undef = _; rw [getD_put_ne n34]; exact getD_put_same l3) (by simp)) ?_
    rw [b5]
    refine wpOps_value (o := o6) (by simp) a6 (exec_assign c6) ?_
    rw [b6]
    refine wpOps_value (o := o7) (by simp) a7 (exec_assign c7) ?_
    rw [b7]
    generalize hA3 : ((A2.put (some d3) (.tuple #[e.key, e.val])).put (some d4) e.key).put (some d5) e.val = A3
    have z3 : ∀ d, d < A2.tmps.size → d < A3.tmps.size := by intro d hd; subst hA3; show _ < (((A2.tmps.setIfInBounds _ _).setIfInBounds _ _).setIfInBounds _ _).size; simpa using hd
    have sz3 : A3.tmps.size = a'.tmps.size := by subst hA3; show (((A2.tmps.setIfInBounds _ _).setIfInBounds _ _).setIfInBounds _ _).size = _; simp [sz2]
    have v4 : A3.eval (.tmp d4) = e.key := by
      subst hA3
      show (_ : Act).tmps.getD d4 undef = _
      rw [getD_put_ne n45]
      exact getD_put_same (by show _ < (A2.tmps.setIfInBounds _ _).size; simpa using l4)
    have v5 : A3.tmps.getD d5 undef = e.val := by
      subst hA3
      exact getD_put_same (by show _ < ((A2.tmps.setIfInBounds _ _).setIfInBounds _ _).size; simpa using l5)
    have s3 : ∀ t, t ∉ [d1, d2, d3, d4, d5, d6, d7] → A3.tmps.getD t undef = A2.tmps.getD t undef := fun t ht => by
      simp only [List.mem_cons, List.not_mem_nil, or_false, not_or] at ht
      subst hA3
      rw [getD_put_ne ht.2.2.2.2.1, getD_put_ne ht.2.2.2.1, getD_put_ne ht.2.2.1]
    have df3 : A3.defers = a'.defers := by subst hA3; rw [put_df, put_df, put_df]; exact df2
    clear hA3
    rw [v4]
    have v5' : (A3.put (some d6) e.key).eval (.tmp d5) = e.val := by show (_ : Act).tmps.getD d5 undef = _; rw [getD_put_ne n56]; exact v5
    rw [v5']
    generalize hA4 : (A3.put (some d6) e.key).put (some d7) e.val = A4
    have s4 : ∀ t, t ∉ [d1, d2, d3, d4, d5, d6, d7] → A4.tmps.getD t undef = a'.tmps.getD t undef := fun t ht => by
      have ht' := ht
      simp only [List.mem_cons, List.not_mem_nil, or_false, not_or] at ht
      subst hA4
      rw [getD_put_ne ht.2.2.2.2.2.2, getD_put_ne ht.2.2.2.2.2.1, s3 t ht', s2 t ht']
    have sz4 : A4.tmps.size = a'.tmps.size := by subst hA4; show ((A3.tmps.setIfInBounds _ _).setIfInBounds _ _).size = _; simp [sz3]
    have k6 : A4.tmps.getD d6 undef = e.key := by subst hA4; rw [getD_put_ne n67]; exact getD_put_same (z3 _ l6)
    have k7 : A4.tmps.getD d7 undef = e.val := by subst hA4; exact getD_put_same (by show _ < (A3.tmps.setIfInBounds _ _).size; simpa using z3 _ l7)
    have df4 : A4.defers = a'.defers := by subst hA4; rw [put_df, put_df]; exact df3
    clear hA4
    have hI4 : I A4 w2 := hside a' w' A4 w2 _ hI s4 sz4 df4 (.inr tw)
    have hit4 : A4.tmps.getD it undef = .pointer (some ⟨r, 0, none⟩) := by rw [s4 it (by simp only [List.mem_cons, List.not_mem_nil, or_false, not_or]; exact ⟨n01, n02, n03, n04, n05, n06, n07⟩)]; exact hitv
    show Exit.then _ _ .normal A4 w2
    refine wp_mono (hround e hme A4 w2 hI4 hit4 k6 k7) ?_
    rintro ex a5 w5 ⟨rfl, h1, h2, h3, h4⟩
    show Exit.inBlock i3 _ .normal a5 w5
    refine ⟨⟨seen.push e.born, n, h1, h2, by rw [h3]; exact hit2, Nat.le_refl _, by rw [h4]; exact hbm2⟩, ?_⟩
    show (match w5.heap[r]? with | some (.mapIter _ _ seen _) => (leftOf ents seen).size | _ => 0) < (match w'.heap[r]? with | some (.mapIter _ _ seen _) => (leftOf ents seen).size | _ => 0)
    rw [h3, hit2, hit]
    exact left_shrinks ents seen e hmem
end
end Go.Proofs.YtakcpnpeadkfpaaGreatDoor.Ra
