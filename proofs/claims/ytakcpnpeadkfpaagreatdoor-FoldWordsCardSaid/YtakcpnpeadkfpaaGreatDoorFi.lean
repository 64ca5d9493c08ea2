/- (*check.checker).find: slices.Backward's iterator, what the function answers and leaves alone, and the prim that stands for it. -/
import Derived.RangeFuncNested
import Derived.RangeFuncBound
import Derived.RangeFuncCalls
import Derived.RangeFuncLeaves
import Derived.RangeFuncBox
import Derived.Shelf.Abstract
import Derived.WalkKit
import Derived.OwnWalkIn
import Derived.TacticsInMore
import Derived.LoopNIn
import Derived.LoopIn
import Derived.Maps.OwnIn
import Derived.Test.YtakcpnpeadkfpaaGreatDoorProg
import Derived.Test.YtakcpnpeadkfpaaGreatDoorFz
namespace Go.Proofs.YtakcpnpeadkfpaaGreatDoor.Fi
open Go Go.Proofs Go.RowKit Go.Shelf
attribute [local go_sem] Oper.semAt_some
set_option linter.unusedVariables false
set_option linter.unusedSectionVars false
def upto {α : Type} (f : Nat → α) (k : Nat) : List α := (List.range k).map f
theorem upto_succ {α : Type} (f : Nat → α) (k : Nat) : upto f (k + 1) = upto f k ++ [f k] := by simp [upto, List.range_succ]
theorem upto_length {α : Type} (f : Nat → α) (k : Nat) : (upto f k).length = k := by simp [upto]
set_option maxRecDepth 100000 in
set_option maxHeartbeats 2000000 in
/-- slices.Backward's closure, for every loop body that keeps what lay below n₀. -/
theorem back1_in (F : Fence) (n : Nat) (h1 : F.fn 195) (hro : F.round = none) (hn : 1 ≤ n) (l Bs n₀ b off len cap : Nat) (vs : Nat → Value) (hreach : len * 8 ≤ 140737488351232) (hb : b < n₀) (hBl : Bs < n₀) (J Jx : List Nat → World → Prop)
  (hY : ∀ (pre : List Nat) (x : Nat) (W : World), J pre W → pre.length < len → YieldAt F (n - 1) Tryz.prog l #[.int .i64 (((x : Nat) : Int)), vs x] W fun e W' =>
   (e = .returned (.bool true) ∧ J (pre ++ [x]) W' ∧ Below n₀ W W') ∨ (e = .returned (.bool false) ∧ Jx (pre ++ [x]) W'))
  (W : World) (hBs : W.cell? ⟨Bs, 0, none⟩ = some (.slice (some ⟨b, off, none⟩) len cap)) (hc : ∀ j, j < len → W.cell? ⟨b, off + j, none⟩ = some (vs j)) (h0 : J [] W) :
  CallsIn F n Tryz.prog 195 #[.func (.yield l) #[] #[], .pointer (some ⟨Bs, 0, none⟩)] W fun e W' => (∃ v, e = .returned v) ∧
   ((∃ ys, ys = upto (fun t => len - 1 - t) len ∧ J ys W') ∨ (∃ pre, (∃ k, k ≤ len ∧ pre = upto (fun t => len - 1 - t) k) ∧ Jx pre W')) := by
 refine callsIn_of_wp Tryz.func195 rfl h1 ?_ hro
 simp only [Tryz.ntmps195, List.size_toArray, List.length_cons, List.length_nil, Nat.reduceAdd, Nat.reduceSub, Array.replicate_succ, Array.replicate_zero, List.push_toArray, List.append_toArray, List.nil_append, List.cons_append]
 gi_wp2
 gi_loopw [3] (fun i wr => ∃ k : Nat, k ≤ len ∧ i = .int .i64 ((len : Int) - 1 - k) ∧ J (upto (fun t => len - 1 - t) k) wr ∧ Below n₀ W wr)
  (fun i _ => ((intOf i) + 1).toNat)
 case atStart => exact ⟨0, Nat.zero_le _, by simp, h0, Below.refl _ _⟩
 case round =>
  obtain ⟨k, hk, rfl, hJs, hnx⟩ := hrel
  have hBs' := (hnx.cell (p := ⟨Bs, 0, none⟩) hBl).trans hBs
  by_cases hlt : k < len
  ·obtain ⟨j, hj⟩ : ∃ j, len = k + 1 + j := ⟨len - k - 1, by omega⟩
   have e : (len : Int) - 1 - k = ((j : Nat) : Int) := by omega
   have ej : Hid (len - 1 - k = j) := (show len - 1 - k = j by omega)
   have hcx := (hnx.cell (p := ⟨b, off + j, none⟩) hb).trans (hc j (by omega))
   obtain ⟨fn, tmps, assign, body, hy, hR⟩ := hY _ j wr hJs (by rw [upto_length]; exact hlt)
   have hjl : j < len := by omega
   rw [e] at *
   clear hj e
   gi_wp2
   refine hR.mono ?_
   rintro e W3 (⟨rfl, hJ3, hk3⟩ | ⟨rfl, hJx3⟩)
   ·gi_wp2
    go_roundw
    case rel => exact ⟨k + 1, by omega, by have := ej.out; simp; omega, by rw [upto_succ, ej.out]; exact hJ3, hnx.trans hk3⟩
    case measure => simp [intOf]
   ·gi_wp2
    refine bodyPost_ret (results_none rfl _ _ _) rfl ?_
    exact ⟨⟨_, rfl⟩, .inr ⟨_, ⟨k + 1, by omega, by rw [upto_succ, ej.out]⟩, hJx3⟩⟩
  ·obtain rfl : k = len := by omega
   have e : (k : Int) - 1 - k = -1 := by omega
   rw [e] at *
   gi_wp2
   go_end0
   first | exact ⟨⟨_, rfl⟩, .inl ⟨_, rfl, hJs⟩⟩ | exact ⟨⟨_, rfl⟩, .inl hJs⟩
set_option maxHeartbeats 1000000 in
theorem back_in (F : Fence) (n : Nat) (h5 : F.fn 179) (hro : F.round = none) (a : Option Addr) (len cap : Nat) (w : World) :
  CallsIn F n Tryz.prog 179 #[.slice a len cap] w fun e w' => e = .returned (.func (.func 195) #[] #[.pointer (some ⟨w.heap.size, 0, none⟩)]) ∧ w' = w.alloc (.cells #[.slice a len cap] 119) := by
 refine callsIn_of_wp Tryz.func179 rfl h5 ?_ hro
 simp only [Tryz.ntmps179, List.size_toArray, List.length_cons, List.length_nil, Nat.reduceAdd, Nat.reduceSub, Array.replicate_succ, Array.replicate_zero, List.push_toArray, List.append_toArray, List.nil_append, List.cons_append]
 gi_wp2
 go_ret
 exact ⟨rfl, rfl⟩
theorem back_stops (F : Fence) (n : Nat) (h1 : F.fn 195) (hro : F.round = none) (hn : 1 ≤ n) (Bs n₀ b off len cap : Nat) (vs : Nat → Value) (hreach : len * 8 ≤ 140737488351232) (w : World) (hBs : Bs < n₀) (hb : b < n₀) (hn₀ : n₀ ≤ w.heap.size)
  (hc : w.cell? ⟨Bs, 0, none⟩ = some (.slice (some ⟨b, off, none⟩) len cap)) (hcs : ∀ j, j < len → w.cell? ⟨b, off + j, none⟩ = some (vs j)) :
  SeqStopsK F n Tryz.prog 195 #[.pointer (some ⟨Bs, 0, none⟩)] (fun x : Nat => #[Value.int .i64 (((x : Nat) : Int)), vs x]) (Below n₀) (fun ys => ys = upto (fun t => len - 1 - t) len)
   (fun pre => ∃ k, k ≤ len ∧ pre = upto (fun t => len - 1 - t) k) len w := fun l J Jx W hW _ _ hY h0 =>
 back1_in F n h1 hro hn l Bs n₀ b off len cap vs hreach hb hBs J Jx hY W ((hW.cell (p := ⟨Bs, 0, none⟩) (by show Bs < _; omega)).trans hc) (fun j hj => (hW.cell (p := ⟨b, off + j, none⟩) (by show b < _; omega)).trans (hcs j hj)) h0
theorem Hid.intro {p : Prop} (h : p) : Hid p := h
section
variable {F : Fence} {nF : Nat} {P : Program} {w : World} {ops : Array Oper} {rest : List Oper} {o : Oper} {a : Act} {Q : Exit → Act → World → Prop}
theorem wpListIn_look (hg : o.guard = none) (m x : Operand) (t : TypeId) (hop : o.op = Op.lookup t m x true) {u : Value} (hrun : (Instr.lookup t (a.eval m) (a.eval x) true).run P w = .ok u w) (hK : wpListIn F nF P ops Q rest (a.put o.dst u) w) : wpListIn F nF P ops Q (o :: rest) a w := by
 refine wpListIn_plain hg fun K' hK' => ?_
 unfold Oper.wpIn
 refine ⟨by simp [Oper.about, hop], ?_⟩
 rw [Oper.semAt_plain F _ _ (by rw [hop]; intro c hc'; cases hc')]
 simp [execOp, hop, hrun, Result.andThen]
 exact hK' _ _ hK
theorem wpListIn_load (hg : o.guard = none) (x : Operand) (t : TypeId) (hop : o.op = Op.load t x) {u : Value} (hrun : (Instr.loadAt t (a.eval x)).run P w = .ok u w) (hK : wpListIn F nF P ops Q rest (a.put o.dst u) w) : wpListIn F nF P ops Q (o :: rest) a w := by
 refine wpListIn_plain hg fun K' hK' => ?_
 unfold Oper.wpIn
 refine ⟨by simp [Oper.about, hop], ?_⟩
 rw [Oper.semAt_plain F _ _ (by rw [hop]; intro c hc'; cases hc')]
 simp [execOp, hop, hrun, Result.andThen]
 exact hK' _ _ hK
theorem wpListIn_alloc (hg : o.guard = none) (t : TypeId) (hop : o.op = Op.alloc t) {u : Value} {w' : World} (hrun : (Instr.alloc t true (.tuple #[])).run P w = .ok u w') (hK : wpListIn F nF P ops Q rest (a.put o.dst u) w') : wpListIn F nF P ops Q (o :: rest) a w := by
 refine wpListIn_plain hg fun K' hK' => ?_
 unfold Oper.wpIn
 refine ⟨by simp [Oper.about, hop], ?_⟩
 rw [Oper.semAt_plain F _ _ (by rw [hop]; intro c hc'; cases hc')]
 simp [execOp, hop, hrun, Result.andThen]
 exact hK' _ _ hK
theorem wpListIn_build (hg : o.guard = none) (t : TypeId) (ps : Array (Nat × Operand)) (hop : o.op = Op.build t ps) {u : Value} (hrun : (execOp a.eval o).run P w = .ok (.value u) w) (hK : wpListIn F nF P ops Q rest (a.put o.dst u) w) : wpListIn F nF P ops Q (o :: rest) a w := by
 refine wpListIn_plain hg fun K' hK' => ?_
 unfold Oper.wpIn
 refine ⟨by simp [Oper.about, hop], ?_⟩
 rw [Oper.semAt_plain F _ _ (by rw [hop]; intro c hc'; cases hc')]
 rw [hrun]
 exact hK' _ _ hK
theorem wpListIn_store (hg : o.guard = none) (x y : Operand) (t : TypeId) (hop : o.op = Op.store t x y) {w' : World} (hrun : (Instr.storeAt t (a.eval x) (a.eval y)).run P w = .ok () w') (hK : wpListIn F nF P ops Q rest (a.put o.dst undef) w') : wpListIn F nF P ops Q (o :: rest) a w := by
 refine wpListIn_plain hg fun K' hK' => ?_
 unfold Oper.wpIn
 refine ⟨by simp [Oper.about, hop], ?_⟩
 rw [Oper.semAt_plain F _ _ (by rw [hop]; intro c hc'; cases hc')]
 simp [execOp, hop, hrun, Result.andThen]
 exact hK' _ _ hK
end
section
open Go.Proofs.YtakcpnpeadkfpaaGreatDoor.Ev
variable [Rho]
theorem run_store154 {w : World} {B : Nat} {c cs : Array Value} (hB : w.heap[B]? = some (.cells c 154 (0, 0))) (hc : c.size = 18) (hs : cs.size = 18) (h1 : ∀ v ∈ cs.toList, v.oneCell' = true) :
  ∃ w', (Instr.storeAt 154 (.pointer (some ⟨B, 0, none⟩)) (.agg cs)).run Tryz.prog w = .ok () w' ∧ Turned w w' B (.cells cs 154 (0, 0)) := by
 obtain ⟨w', c', g1, g2, g3⟩ := run_storeCells (P := Tryz.prog) cs.toList 0 0 c w hB (by simp [hs, hc]) h1
 have e : c' = cs := by
  apply Array.toList_inj.1
  rw [g3]
  have : c.toList.drop (0 + 0 + cs.toList.length) = [] := List.drop_eq_nil_of_le (by simp [hs, hc])
  rw [this]; simp
 subst e
 refine ⟨w', ?_, g2⟩
 have hz : szOf Tryz.prog 154 = some 18 := by kernel_rfl
 simp [Instr.storeAt, Instr.sureAddr, storeVar, run_size hz, Value.cells, hs, g1]
theorem run_load154 {w : World} {B : Nat} {cs : Array Value} {el : TypeId} {fz : Nat × Nat} (hB : w.heap[B]? = some (.cells cs el fz)) (hs : cs.size = 18) :
  (Instr.loadAt 154 (.pointer (some ⟨B, 0, none⟩))).run Tryz.prog w = .ok (.agg cs) w := by
 have hz : szOf Tryz.prog 154 = some 18 := by kernel_rfl
 have ha : aggT Tryz.prog 154 = some true := by kernel_rfl
 have hrun : (loadCells ⟨B, 0, none⟩ 18).run Tryz.prog w = .ok cs.toList.toArray w :=
  Go.Proofs.YtakcpnpeadkfpaaGreatDoor.Ev.run_loadCells (fun j v hj => cell_of hB (by simpa using hj)) (by simp [hs])
 simp [Instr.loadAt, Instr.sureAddr, loadVar, isAgg_run ha, run_size hz, hrun]
theorem run_loadVar154 {w : World} {B : Nat} {cs : Array Value} {el : TypeId} {fz : Nat × Nat} (hB : w.heap[B]? = some (.cells cs el fz)) (hs : cs.size = 18) :
  (loadVar 154 ⟨B, 0, none⟩).run Tryz.prog w = .ok (.agg cs) w := by
 have hz : szOf Tryz.prog 154 = some 18 := by kernel_rfl
 have ha : aggT Tryz.prog 154 = some true := by kernel_rfl
 have hrun : (loadCells ⟨B, 0, none⟩ 18).run Tryz.prog w = .ok cs.toList.toArray w :=
  Go.Proofs.YtakcpnpeadkfpaaGreatDoor.Ev.run_loadCells (fun j v hj => cell_of hB (by simpa using hj)) (by simp [hs])
 simp [loadVar, isAgg_run ha, run_size hz, hrun]
theorem run_loadVar4 {w : World} {a : Addr} {v : Value} (hc : w.cell? a = some v) : (loadVar 4 a).run Tryz.prog w = .ok v w := by
 have ha : aggT Tryz.prog 4 = some false := by kernel_rfl
 simp [loadVar, isAgg_run ha, hc]
theorem results_find {tm : Array Value} {W : World} {B C : Addr} {u v : Value} (h4 : tm.getD 4 undef = .pointer (some B)) (h5 : tm.getD 5 undef = .pointer (some C))
  (l1 : (loadVar 154 B).run Tryz.prog W = .ok u W) (l2 : (loadVar 4 C).run Tryz.prog W = .ok v W) : (results Tryz.f148 tm).run Tryz.prog W = .ok (.tuple #[u, v]) W := by
 have h4 : tm[4]?.getD undef = .pointer (some B) := by simpa using h4
 have h5 : tm[5]?.getD undef = .pointer (some C) := by simpa using h5
 unfold results
 show Sem.run Tryz.prog (do let vs ← (#[ResultVar.cell 4 154, ResultVar.cell 5 4] : Array ResultVar).mapM _; _) W = _
 simp [asAddr, h4, h5, l1, l2, Result.andThen]
theorem tAbove {w w' : World} {b : Nat} {o : Obj} (t : Turned w w' b o) {i : Nat} (h : i ≠ b) : w'.heap[i]? = w.heap[i]? := by rw [t.heap, if_neg h]
theorem tAt {w w' : World} {b : Nat} {o : Obj} (t : Turned w w' b o) : w'.heap[b]? = some o := by rw [t.heap, if_pos rfl]
theorem tKeeps {w w' : World} {b : Nat} {o o' : Obj} (t : Turned w w' b o) (hb : w.heap[b]? = some o') (hc : o'.isCells = true) : KeepsOthers w w' :=
 ⟨by rw [t.size]; omega, fun k u hk hu => by
  by_cases e : k = b
  ·subst e; rw [hb] at hk; obtain rfl := Option.some.inj hk; rw [hc] at hu; cases hu
  ·rw [tAbove t e]; exact hk⟩
theorem tBelow {w w' : World} {b B : Nat} {o : Obj} (t : Turned w w' b o) (h : B ≤ b) : Below B w w' := ⟨t.os, t.tape, t.output, by rw [t.size]; omega, fun k hk => tAbove t (by omega)⟩
theorem own_bk {β : Type} {B k : Nat} {o : Obj} (hk : k < B) : OwnFrom B (fun (_ : β) W => W.heap[k]? = some o) := fun s W W' row hs hg hr =>
 (hg.block k (Array.getElem?_eq_some_iff.1 hs).1 (fun e => by have := (hr k e.symm).1; omega)).trans hs
set_option maxRecDepth 100000 in
set_option maxHeartbeats 4000000 in
theorem find_in (F : Fence) (n : Nat) (h148 : F.fn 148) (h179 : F.fn 179) (h195 : F.fn 195) (hro : F.round = none) (hn : 3 ≤ n) (pb po b off len cap : Nat) (vs : Nat → Value) (key : ByteArray) (f : Nat → Bool) (G : Nat → Array Value → Prop) (w : World)
  (zs : Array Value) (hz1 : zs.size = 18) (hz2 : ∀ v ∈ zs.toList, v.oneCell' = true) (hz3 : ∀ w, (zeroValue 154).run Tryz.prog w = .ok (.agg zs) w)
  (hlk : ∀ j W, Below w.heap.size w W → ∃ cs, (Instr.lookup 117 (vs j) (.string key) true).run Tryz.prog W = .ok (.tuple #[.agg cs, .bool (f j)]) W ∧ cs.size = 18 ∧ (∀ v ∈ cs.toList, v.oneCell' = true) ∧ (f j = true → G j cs))
  (hreach : len * 8 ≤ 140737488351232)
  (hC : w.cell? ⟨pb, po, none⟩ = some (.slice (some ⟨b, off, none⟩) len cap)) (hpl : pb < w.heap.size) (hbl : b < w.heap.size) (hc : ∀ j, j < len → w.cell? ⟨b, off + j, none⟩ = some (vs j)) :
  CallsIn F n Tryz.prog 148 #[.pointer (some ⟨pb, po, none⟩), .string key] w fun e W' => (∃ cs b, e = .returned (.tuple #[.agg cs, .bool b]) ∧ ((b = false ∧ cs = zs ∧ ∀ j, j < len → f j = false) ∨ (b = true ∧ ∃ x, x < len ∧ f x = true ∧ G x cs ∧ ∀ j, x < j → j < len → f j = false))) ∧ Below w.heap.size w W' := by
 have h1 : 1 ≤ n := by omega
 refine callsIn_of_wp_marks Tryz.func148 rfl h148 ?_ hro
 simp only [Tryz.ntmps148, List.size_toArray, List.length_cons, List.length_nil, Nat.reduceAdd, Nat.reduceSub, Array.replicate_succ, Array.replicate_zero, List.push_toArray, List.append_toArray, List.nil_append, List.cons_append]
 have hA1 : Below w.heap.size w (w.alloc (.cells #[.string key] 9)) := (Below.refl _ w).alloc (Nat.le_refl _) _
 have hA2 : Below w.heap.size w ((w.alloc (.cells #[.string key] 9)).alloc (.cells zs 154)) := hA1.alloc (by simp) _
 have hA3 : Below w.heap.size w (((w.alloc (.cells #[.string key] 9)).alloc (.cells zs 154)).alloc (.cells #[.bool false] 4)) := hA2.alloc (by simp; omega) _
 have hC' := (hA3.cell (p := ⟨pb, po, none⟩) hpl).trans hC
 have hal : ∀ w, (Instr.alloc 154 true (.tuple #[])).run Tryz.prog w = .ok (.pointer (some ⟨w.heap.size, 0, none⟩)) (w.alloc (.cells zs 154)) := fun w => by
  simp [Instr.alloc, hz3, newVar, newRow, Value.cells]
 have hbu : ∀ (w : World) (a : Act), (execOp a.eval { dst := some 25, op := Op.build 154 #[], type := 154, pos := "check.go:57", after := #[], guard := none }).run Tryz.prog w = .ok (.value (.agg zs)) w := fun w a => by
  simp [execOp, Instr.build, hz3, Instr.fill, Value.cells]
 have HH := Hid.intro hlk
 have HC : Hid (∀ j, j < len → w.cell? ⟨b, off + j, none⟩ = some (vs j)) := hc
 clear hlk hc hC
 gi_wp2_with (first
  | (refine wpListIn_alloc rfl 154 rfl (hal _) ?_)
  | (gi_at_call 179; refine (back_in F (n - 1) h179 hro _ _ _ _).mono ?_; rintro e w' ⟨rfl, rfl⟩)
  | gi_in)
 clear hC'
 -- what lies in the four blocks
 obtain ⟨S, hS⟩ : ∃ S, S = w.heap.size := ⟨_, rfl⟩
 obtain ⟨W0, hW0⟩ : ∃ W0, (((w.alloc (.cells #[.string key] 9)).alloc (.cells zs 154)).alloc (.cells #[.bool false] 4)).alloc (.cells #[.slice (some ⟨b, off, none⟩) len cap] 119) = W0 := ⟨_, rfl⟩
 have hs0 : W0.heap.size = S + 4 := by rw [← hW0, hS]; simp
 have hA4 : Below w.heap.size w W0 := by rw [← hW0]; exact hA3.alloc (by simp; omega) _
 have hB0 : W0.heap[S]? = some (.cells #[.string key] 9 (0, 0)) := by
  rw [← hW0, hS]; exact (((Below.heap_alloc _ _ _ (by simp; omega)).trans (Below.heap_alloc _ _ _ (by simp; omega))).trans (Below.heap_alloc _ _ _ (by simp))).trans (World.alloc_heap_new w _)
 have hB1 : W0.heap[S + 1]? = some (.cells zs 154 (0, 0)) := by
  rw [← hW0, hS]; refine ((Below.heap_alloc _ _ _ (by simp)).trans (Below.heap_alloc _ _ _ (by simp))).trans ?_
  have := World.alloc_heap_new (w.alloc (.cells #[.string key] 9)) (.cells zs 154); rwa [World.size_alloc] at this
 have hB2 : W0.heap[S + 1 + 1]? = some (.cells #[.bool false] 4 (0, 0)) := by
  rw [← hW0, hS]; refine (Below.heap_alloc _ _ _ (by simp)).trans ?_
  have := World.alloc_heap_new ((w.alloc (.cells #[.string key] 9)).alloc (.cells zs 154)) (.cells #[.bool false] 4); rwa [World.size_alloc, World.size_alloc] at this
 have hB3 : W0.heap[S + 1 + 1 + 1]? = some (.cells #[.slice (some ⟨b, off, none⟩) len cap] 119 (0, 0)) := by
  rw [← hW0, hS]
  have := World.alloc_heap_new (((w.alloc (.cells #[.string key] 9)).alloc (.cells zs 154)).alloc (.cells #[.bool false] 4)) (.cells #[.slice (some ⟨b, off, none⟩) len cap] 119); rwa [World.size_alloc, World.size_alloc, World.size_alloc] at this
 rw [hW0]
 rw [← hS] at hA4 hbl hpl HH ⊢
 have HW := Hid.intro hS
 clear hS hW0 hA1 hA2 hA3
 refine wpIn_rangeFunc_ownG hro h1 (gf := 195) (lb := #[.pointer (some ⟨S + 1 + 1 + 1, 0, none⟩)]) rfl h195 (enters_of Tryz.func195 (by kernel_rfl) rfl)
  (back_stops F (n - 1) h195 hro (by omega) (S + 1 + 1 + 1) (S + 4) b off len cap vs hreach W0 (by omega) (by omega) (by omega) (cell_of hB3 rfl) (fun j hj => (hA4.cell (p := ⟨b, off + j, none⟩) hbl).trans (HC.out j hj))) belowK_t (belowK_b (by omega)) (Below.refl _ _) (fun _ => rfl)
  (fun pre W => (∀ j ∈ pre, f j = false) ∧ (W.heap[S]? = some (.cells #[.string key] 9 (0, 0))) ∧ (W.heap[S + 1]? = some (.cells zs 154 (0, 0))) ∧ (W.heap[S + 1 + 1]? = some (.cells #[.bool false] 4 (0, 0))) ∧ Below S w W ∧ S + 4 ≤ W.heap.size)
  (fun c pre W => (c = .ret ∧ ∃ ini x cs, pre = ini ++ [x] ∧ (∀ j ∈ ini, f j = false) ∧ f x = true ∧ G x cs ∧ cs.size = 18 ∧ W.heap[S + 1]? = some (.cells cs 154 (0, 0)) ∧ W.heap[S + 1 + 1]? = some (.cells #[.bool true] 4 (0, 0))) ∧ Below S w W)
  ?hI ?hIx ⟨by simp, hB0, hB1, hB2, hA4, by omega⟩
  (fun x => { tmps := #[.pointer (some ⟨pb, po, none⟩), .string key, undef, .pointer (some ⟨S, 0, none⟩), .pointer (some ⟨S + 1, 0, none⟩), .pointer (some ⟨S + 1 + 1, 0, none⟩), undef, vs x, undef, undef, .pointer (some ⟨pb, po, none⟩), .pointer (some ⟨pb, po, none⟩), .pointer (some ⟨pb, po, none⟩), .slice (some ⟨b, off, none⟩) len cap, .func (.func 195) #[] #[.pointer (some ⟨S + 1 + 1 + 1, 0, none⟩)], .int .i64 ((x : Nat) : Int), vs x, undef, undef, undef, undef, undef, undef, undef, undef, undef], defers := [] }) ?assign ?body ?done ?stop
 case hI =>
  rw [hs0]
  intro s W W' row hs hg hr
  exact ⟨hs.1, own_bk (β := List Nat) (by omega) s W W' row hs.2.1 hg hr, own_bk (β := List Nat) (by omega) s W W' row hs.2.2.1 hg hr, own_bk (β := List Nat) (by omega) s W W' row hs.2.2.2.1 hg hr, ownFrom_below (by have := HW.out; omega) (by omega) s W W' row hs.2.2.2.2.1 hg hr, Nat.le_trans hs.2.2.2.2.2 hg.size⟩
 case hIx =>
  rw [hs0]
  intro c s W W' row hs hg hr
  obtain ⟨⟨hc, ini, x, cs, e1, e2, e3, eg, ez, e4, e5⟩, e6⟩ := hs
  exact ⟨⟨hc, ini, x, cs, e1, e2, e3, eg, ez, own_bk (β := List Nat) (by omega) s W W' row e4 hg hr, own_bk (β := List Nat) (by omega) s W W' row e5 hg hr⟩, ownFrom_below (by have := HW.out; omega) (by omega) s W W' row e6 hg hr⟩
 case assign =>
  intro l x W K hK
  gi_wp2
  exact hK
 case body =>
  rintro l pre x W ⟨hp, hk0, hk1, hk2, hB, hWs⟩ _
  have hkey : W.cell? ⟨S, 0, none⟩ = some (.string key) := cell_of hk0 rfl
  obtain ⟨cs, hl, hc1, hc2, hg⟩ := HH.out x W hB
  have hnew := World.alloc_heap_new W (.cells zs 154)
  cases hr : f x with
  | false =>
   rw [hr] at hl
   obtain ⟨W1, hrun1, ht1⟩ := run_store154 hnew hz1 hc1 hc2
   clear hg
   have T1 := Hid.intro ht1
   clear ht1 hnew
   have hr := Hid.intro hr
   gi_wp2_with (first
    | (refine wpListIn_look rfl _ _ 117 rfl hl ?_)
    | (refine wpListIn_alloc rfl 154 rfl (hal _) ?_)
    | (refine wpListIn_store rfl _ _ 154 rfl hrun1 ?_)
    | gi_in)
   have ht1 := T1.out
   have hbl4 : Below (S + 4) W W1 := ((Below.refl _ W).alloc hWs _).trans (tBelow ht1 hWs)
   exact ⟨((KeepsOthers.alloc W _).trans (tKeeps ht1 (World.alloc_heap_new W _) rfl)).from _, hbl4,
    fun j hj => (List.mem_append.1 hj).elim (hp j) (fun e => by simp at e; subst e; exact hr.out),
    (hbl4.block S (by omega)).trans hk0, (hbl4.block (S + 1) (by omega)).trans hk1, (hbl4.block (S + 1 + 1) (by omega)).trans hk2, hB.trans (hbl4.mono (by omega)), Nat.le_trans hWs hbl4.size⟩
  | true =>
   rw [hr] at hl
   have hg := Hid.intro (hg hr)
   obtain ⟨W1, hrun1, ht1⟩ := run_store154 hnew hz1 hc1 hc2
   have hbl4 : Below (S + 4) W W1 := ((Below.refl _ W).alloc hWs _).trans (tBelow ht1 hWs)
   have hk1' := (hbl4.block (S + 1) (by omega)).trans hk1
   have hl8 := run_load154 (tAt ht1) hc1
   obtain ⟨W2, hrun2, ht2⟩ := run_store154 hk1' hz1 hc1 hc2
   have hk2' : W2.heap[S + 1 + 1]? = some (.cells #[.bool false] 4 (0, 0)) := (tAbove ht2 (by omega)).trans ((hbl4.block (S + 1 + 1) (by omega)).trans hk2)
   have hcell2 : W2.cell? ⟨S + 1 + 1, 0, none⟩ = some (.bool false) := cell_of hk2' rfl
   have hfz2 : W2.frozen? ⟨S + 1 + 1, 0, none⟩ = false := by simp [World.frozen?, hk2']
   have T1 := Hid.intro ht1
   have T2 := Hid.intro ht2
   have T3 := Hid.intro hk2'
   have T4 := Hid.intro hk1'
   clear ht1 ht2 hnew hk2' hk1'
   have hr := Hid.intro hr
   gi_wp2_with (first
    | (refine wpListIn_look rfl _ _ 117 rfl hl ?_)
    | (refine wpListIn_alloc rfl 154 rfl (hal _) ?_)
    | (refine wpListIn_load rfl _ 154 rfl hl8 ?_)
    | (refine wpListIn_store rfl _ _ 154 rfl hrun1 ?_)
    | (refine wpListIn_store rfl _ _ 154 rfl hrun2 ?_)
    | gi_in)
   have ht1 := T1.out
   have ht2 := T2.out
   have ht3 := setCell_turned (o := 0) (v := .bool true) T3.out
   have hblS : Below S W (W2.setCell ⟨S + 1 + 1, 0, none⟩ (.bool true)) := (hbl4.mono (by omega)).trans ((tBelow ht2 (by omega)).trans (tBelow ht3 (by omega)))
   exact ⟨(((KeepsOthers.alloc W _).trans (tKeeps ht1 (World.alloc_heap_new W _) rfl)).trans ((tKeeps ht2 T4.out rfl).trans (tKeeps ht3 T3.out rfl))).from _,
    ⟨rfl, pre, x, cs, rfl, hp, hr.out, hg.out, hc1, (tAbove ht3 (by omega)).trans (tAt ht2), tAt ht3⟩, hB.trans hblS⟩
 case done =>
  rintro D ys W hD rfl ⟨hne, hk0, hk1, hk2, hB, hWs⟩ hK
  have hL : Hid (∀ j, j < len → f j = false) := fun j hj => hne j (by simp only [upto, List.mem_map, List.mem_range]; exact ⟨len - 1 - j, by omega, by omega⟩)
  obtain ⟨W1, hrun1, ht1⟩ := run_store154 hk1 hz1 hz1 hz2
  have hk2' : W1.heap[S + 1 + 1]? = some (.cells #[.bool false] 4 (0, 0)) := (tAbove ht1 (by omega)).trans hk2
  have hcell2 : W1.cell? ⟨S + 1 + 1, 0, none⟩ = some (.bool false) := cell_of hk2' rfl
  have hfz2 : W1.frozen? ⟨S + 1 + 1, 0, none⟩ = false := by simp [World.frozen?, hk2']
  have T1 := Hid.intro ht1
  have T3 := Hid.intro hk2'
  have TK := Hid.intro hK
  clear ht1 hk2' hK hne
  gi_wp2_with (first
   | (refine wpListIn_build rfl 154 _ rfl (hbu _ _) ?_)
   | (refine wpListIn_store rfl _ _ 154 rfl hrun1 ?_)
   | gi_in)
  have ht1 := T1.out
  have ht3 := setCell_turned (o := 0) (v := .bool false) T3.out
  have hK2 := (tAbove ht3 (i := D) (by omega)).trans ((tAbove ht1 (i := D) (by omega)).trans TK.out)
  refine ⟨by simp, .inl ⟨_, _, rfl, run_takeDeferred hK2, ?_⟩⟩
  have l1 := run_loadVar154 ((World.putObj_heap_other (o := .deferred none) (show S + 1 ≠ D by omega)).trans ((tAbove ht3 (i := S + 1) (by omega)).trans (tAt ht1))) hz1
  have c2 := cell_of (o := 0) (v := .bool false) ((World.putObj_heap_other (o := .deferred none) (show S + 1 + 1 ≠ D by omega)).trans (tAt ht3)) rfl
  refine ⟨.tuple #[.agg zs, .bool false], ?_, ⟨zs, false, rfl, .inl ⟨rfl, rfl, hL.out⟩⟩, ?_⟩
  ·exact results_find rfl rfl l1 (run_loadVar4 c2)
  ·rw [← HW.out]
   exact hB.trans ((tBelow ht1 (by omega)).trans ((tBelow ht3 (by omega)).trans (belowK_b (w := W0) (by omega) _ D _ _ (by omega) hK2 rfl rfl)))
 case stop =>
  rintro D c pre W hD ⟨k, hk, rfl⟩ ⟨⟨rfl, ini, x, cs, e1, e2, e3, eg, hc1, hk1, hk2⟩, hB⟩ hK
  have hL : Hid (∃ x, x < len ∧ f x = true ∧ G x cs ∧ ∀ j, x < j → j < len → f j = false) := by
   obtain ⟨k', rfl⟩ : ∃ k', k = k' + 1 := by
    cases k with
    | zero => simp [upto] at e1
    | succ k' => exact ⟨k', rfl⟩
   rw [upto_succ] at e1
   obtain ⟨rfl, e5⟩ := List.append_inj' e1 rfl
   have e5 : len - 1 - k' = x := by simpa using e5
   exact ⟨x, by omega, e3, eg, fun j h1 h2 => e2 j (by simp only [upto, List.mem_map, List.mem_range]; exact ⟨len - 1 - j, by omega, by omega⟩)⟩
  have TK := Hid.intro hK
  have T1 := Hid.intro hk1
  have T2 := Hid.intro hk2
  clear hK hk1 hk2 e1 e2 e3 eg
  gi_wp2
  refine ⟨by simp, .inl ⟨_, _, rfl, run_takeDeferred TK.out, ?_⟩⟩
  have l1 := run_loadVar154 ((World.putObj_heap_other (o := .deferred none) (show S + 1 ≠ D by omega)).trans T1.out) hc1
  have c2 := cell_of (o := 0) (v := .bool true) ((World.putObj_heap_other (o := .deferred none) (show S + 1 + 1 ≠ D by omega)).trans T2.out) rfl
  refine ⟨.tuple #[.agg cs, .bool true], ?_, ⟨cs, true, rfl, .inr ⟨rfl, hL.out⟩⟩, ?_⟩
  ·exact results_find rfl rfl l1 (run_loadVar4 c2)
  ·rw [← HW.out]
   exact hB.trans (belowK_b (w := W0) (by omega) _ D _ _ (by omega) TK.out rfl rfl)
end
section
open Go.Proofs.YtakcpnpeadkfpaaGreatDoor.Ev
variable [Rho]
theorem relBelow {w0 w W : World} {φ : Phi} {h : HP} (r : Rel w0 φ h w) (b : Below w.heap.size w W) : Rel w0 φ h W :=
 ⟨b.os.trans r.os, b.tape.trans r.tape, b.output.trans r.output, Nat.le_trans r.size b.size, fun k hk => (b.block k (Nat.lt_of_lt_of_le hk r.size)).trans (r.old k hk), r.gb, r.wf,
  fun p l hl => ⟨(r.dom p l hl).1, Nat.lt_of_lt_of_le (r.dom p l hl).2 b.size⟩, fun p l k hl hk => BlkOk.step (.refl _) (b.block _ (r.dom p l hl).2) (r.ok p l k hl hk), r.inj⟩
noncomputable section
/-- Is it a struct of so many cells, each one cell? -/
def aggOk (v : AV) : Bool := match v with | .agg l => Nat.beq (lenL l) 18 && allOne l | _ => false
/-- What the last of the maps that knows a key holds there. -/
def lookL (k : AV) (h : HP) (ms : List AV) : Option AV → Option (Option AV) :=
 lrec (fun r => some r) (fun m _ ih r => ob (lookM .str k m h) fun o => Option.rec (ih r) (fun v => bif aggOk v then ih (some v) else none) o) ms
def zName : AV := .agg [.bool false, .bool false, .bool false, .str [], .int .i64 (.ofNat 0), .int .i64 (.ofNat 0), .nils, .bool false, .nils, .int .i64 (.ofNat 0), .nils, .nils, .str [], .int .i64 (.ofNat 0), .int .i64 (.ofNat 0), .int .i64 (.ofNat 0), .int .i64 (.ofNat 0), .str []]
def findP (xs : List AV) (h : HP) : Option (AV × HP) :=
 match xs with
 | [.ptr c o, .str s] => ob (HP.get h c) fun k => match k with
  | .cells _ vs => ob (nth vs o) fun sl => match sl with
   | .slice b o2 len _ => ob (HP.get h b) fun k2 => match k2 with
    | .cells _ ms => ob (takeN len (dropN o2 ms)) fun q => bif Nat.ble 1 len && Nat.ble len 100000 then ob (lookL (.str s) h q none) fun r => some (Option.rec (AV.tup [zName, .bool false]) (fun v => AV.tup [v, .bool true]) r, h) else none
    | _ => none
   | _ => none
  | _ => none
 | _ => none
end
theorem lookL_cons (k : AV) (h : HP) (m : AV) (ms : List AV) (r0 : Option AV) : lookL k h (m :: ms) r0 = ob (lookM .str k m h) fun o => Option.rec (lookL k h ms r0) (fun v => bif aggOk v then lookL k h ms (some v) else none) o := rfl
theorem lookL_spec (k : AV) (h : HP) : ∀ (ms : List AV) (r0 r : Option AV), lookL k h ms r0 = some r →
  (∀ (j : Nat) m, ms[j]? = some m → ∃ o, lookM .str k m h = some o ∧ ∀ v, o = some v → aggOk v = true) ∧
  ((r = r0 ∧ ∀ (j : Nat) m, ms[j]? = some m → lookM .str k m h = some none) ∨
   (∃ (x : Nat) (m v : AV), ms[x]? = some m ∧ lookM .str k m h = some (some v) ∧ r = some v ∧ ∀ (j : Nat) m', x < j → ms[j]? = some m' → lookM .str k m' h = some none))
 | [], r0, r, hl => by
  have : r0 = r := Option.some.inj hl
  subst this
  exact ⟨by simp, .inl ⟨rfl, by simp⟩⟩
 | m :: ms, r0, r, hl => by
  rw [lookL_cons] at hl
  obtain ⟨o, ho, hl⟩ := ob_eq hl
  have key : ∀ r1, lookL k h ms r1 = some r → (∀ v, o = some v → aggOk v = true) → (o = none → r1 = r0) → (∀ v, o = some v → r1 = some v) →
    (∀ (j : Nat) m', (m :: ms)[j]? = some m' → ∃ o, lookM .str k m' h = some o ∧ ∀ v, o = some v → aggOk v = true) ∧
    ((r = r0 ∧ ∀ (j : Nat) m', (m :: ms)[j]? = some m' → lookM .str k m' h = some none) ∨
     (∃ (x : Nat) (m1 v : AV), (m :: ms)[x]? = some m1 ∧ lookM .str k m1 h = some (some v) ∧ r = some v ∧ ∀ (j : Nat) m', x < j → (m :: ms)[j]? = some m' → lookM .str k m' h = some none)) := fun r1 h1 hag hn hs => by
   obtain ⟨g1, g2⟩ := lookL_spec k h ms r1 r h1
   refine ⟨fun j m' hj => ?_, ?_⟩
   ·cases j with
    | zero => simp at hj; subst hj; exact ⟨o, ho, hag⟩
    | succ j => exact g1 j m' (by simpa using hj)
   ·rcases g2 with ⟨e, g⟩ | ⟨x, m1, v, e1, e2, e3, g⟩
    ·cases o with
     | none => exact .inl ⟨e.trans (hn rfl), fun j m' hj => by
       cases j with
       | zero => simp at hj; subst hj; exact ho
       | succ j => exact g j m' (by simpa using hj)⟩
     | some v => exact .inr ⟨0, m, v, rfl, ho, e.trans (hs v rfl), fun j m' hlt hj => by
       cases j with
       | zero => omega
       | succ j => exact g j m' (by simpa using hj)⟩
    ·exact .inr ⟨x + 1, m1, v, by simpa using e1, e2, e3, fun j m' hlt hj => by
      cases j with
      | zero => omega
      | succ j => exact g j m' (by omega) (by simpa using hj)⟩
  cases o with
  | none => exact key r0 hl (by simp) (fun _ => rfl) (by simp)
  | some v =>
   obtain ⟨ha, hl⟩ := bif_eq (show (bif aggOk v then lookL k h ms (some v) else none) = some r from hl)
   exact key (some v) hl (fun v' e => by cases e; exact ha) (by simp) (fun v' e => by cases e; rfl)
theorem aggOk_ok {φ : Phi} {u : Value} {v : AV} (hr : RV φ u v) (ha : aggOk v = true) : ∃ cs : Array Value, u = .agg cs ∧ cs.size = 18 ∧ (∀ x ∈ cs.toList, x.oneCell' = true) ∧ RV φ (.agg cs) v := by
 unfold aggOk at ha
 split at ha
 ·rename_i l
  rw [Bool.and_eq_true] at ha
  cases hr with
  | agg cs _ hv =>
   have h1 := Nat.eq_of_beq_eq_true ha.1
   rw [lenL_eq] at h1
   have h2 := hv.length
   exact ⟨cs, rfl, by simpa using h2.trans h1, allOne_ok hv ha.2, .agg cs l hv⟩
 ·simp at ha
/-- The prim of (*check.checker).find. -/
theorem pr_find (w0 : World) : PrOk Tryz.prog w0 148 findP := by
 refine ⟨⟨_, Tryz.func148, by kernel_rfl, by decide +kernel⟩, fun xs x φ h w vs hx R hv => ?_⟩
 unfold findP at hx
 split at hx
 ·rename_i c o s
  obtain ⟨k, hk, hx⟩ := ob_eq hx
  split at hx
  ·rename_i wr cvs
   obtain ⟨sl, hsl, hx⟩ := ob_eq hx
   split at hx
   ·rename_i b o2 len cp
    obtain ⟨k2, hk2, hx⟩ := ob_eq hx
    split at hx
    ·rename_i wr2 ms
     obtain ⟨q, hq, hx⟩ := ob_eq hx
     obtain ⟨hlen, hx⟩ := bif_eq hx
     obtain ⟨r, hr, hx⟩ := ob_eq hx
     rw [Bool.and_eq_true] at hlen
     have hl1 := Nat.le_of_ble_eq_true hlen.1
     have hl2 := Nat.le_of_ble_eq_true hlen.2
     obtain rfl := Option.some.inj hx
     obtain ⟨hq1, hq2⟩ := takeN_some hq
     rw [dropN_eq] at hq1 hq2
     rw [nth_eq] at hsl
     obtain ⟨sp1, sp2⟩ := lookL_spec (.str s) h q none r hr
     cases hv with
     | cons v1 _ vs1 _ hv1 hs1 =>
      cases hs1 with
      | cons v2 _ vs2 _ hv2 hs2 =>
       cases hs2
       cases hv1 with
       | ptr _ _ l hl =>
        obtain ⟨cs, hcs, hcell⟩ := R.read hl hk
        obtain ⟨u, hu, hru⟩ := hcs.get hsl
        have hcu := hcell o u hu
        cases hru with
        | slice0 a => omega
        | slice _ _ _ cap _ l2 hl2' hle _ _ =>
         obtain ⟨mv, hmv, hmcell⟩ := R.read hl2' hk2
         have hmlen := hmv.length
         have hqlen : q.length = len := by rw [hq1]; simp at hq2 ⊢; omega
         have hkey := hv2
         cases hv2 with
         | str key _ hks =>
          let vf : Nat → Value := fun j => if j < len then (mv[o2 + j]?).getD (.map none) else .map none
          have hget : ∀ j, j < len → ∃ mj, mv[o2 + j]? = some mj ∧ vf j = mj ∧ ∃ a, q[j]? = some a ∧ RV φ mj a := fun j hj => by
           have h1 : j < q.length := by omega
           have h2 : q[j]? = some q[j] := List.getElem?_eq_getElem h1
           have h3 : ms[o2 + j]? = some q[j] := by
            rw [← h2, hq1, List.getElem?_take, if_pos hj, List.getElem?_drop]
           obtain ⟨mj, hmj, hrj⟩ := hmv.get h3
           exact ⟨mj, hmj, by simp only [vf, if_pos hj, hmj, Option.getD_some], _, h2, hrj⟩
          have hrel : ∀ j : Nat, ∃ a, RV φ (vf j) a ∧ a = (q[j]?).getD .nilm := fun j => by
           by_cases hj : j < len
           ·obtain ⟨mj, _, e, a, ha, hra⟩ := hget j hj
            rw [e, ha]; exact ⟨a, hra, rfl⟩
           ·refine ⟨.nilm, ?_, ?_⟩
            ·simp only [vf, if_neg hj]; exact .nilm
            ·rw [List.getElem?_eq_none (by omega)]; rfl
          have hlook : ∀ j : Nat, ∃ o, lookM .str (.str s) ((q[j]?).getD .nilm) h = some o ∧ ∀ v, o = some v → aggOk v = true := fun j => by
           cases e : q[j]? with
           | some a => exact sp1 j a e
           | none => exact ⟨none, rfl, by simp⟩
          have zk : zeroOf Tryz.prog 154 = some zName := by kernel_rfl
          have hfin := callsIn_wide.1 (find_in Fence.wide 3 trivial trivial trivial rfl (by omega) l.blk (l.off + o) l2.blk (l2.off + o2) len cap vf key
           (fun (j : Nat) => match lookM .str (.str s) ((q[j]?).getD .nilm) h with | some (some _) => true | _ => false)
           (fun (j : Nat) cs => ∃ v, lookM .str (.str s) ((q[j]?).getD .nilm) h = some (some v) ∧ RV φ (.agg cs) v) w
           #[.bool false, .bool false, .bool false, .string { data := #[] }, .int .i64 0, .int .i64 0, .slice none 0 0, .bool false, .slice none 0 0, .int .i64 0, .slice none 0 0, .slice none 0 0, .string { data := #[] }, .int .i64 0, .int .i64 0, .int .i64 0, .int .i64 0, .string { data := #[] }]
           rfl (by simp [Value.oneCell']) Tryz.zeroValue154 (fun j W hb => by
            obtain ⟨o', ho', hag⟩ := hlook j
            obtain ⟨a, hra, rfl⟩ := hrel j
            obtain ⟨u', hrun, hru'⟩ := look_ok (P := Tryz.prog) (t := 117) (ok := true) (relBelow R hb) Tryz.underlying117 (q := .str) (by kernel_rfl) zk hra hkey ho'
            rw [ho']
            cases o' with
            | none =>
             have hru' : RV φ u' (.tup [zName, .bool false]) := hru'
             cases hru' with
             | tup us _ hus =>
              cases hul : us.toList with
              | nil => rw [hul] at hus; cases hus
              | cons y1 ys =>
               rw [hul] at hus
               cases hus with
               | cons _ _ _ _ hy1 hys =>
                cases hys with
                | cons y2 _ ys2 _ hy2 hys2 =>
                 cases hys2; cases hy2
                 obtain ⟨cs', rfl, hc1, hc2, _⟩ := aggOk_ok hy1 (by kernel_rfl)
                 refine ⟨cs', ?_, hc1, hc2, by simp⟩
                 rw [hrun]
                 have : us = #[.agg cs', .bool false] := Array.toList_inj.1 (by rw [hul])
                 rw [this]
            | some v =>
             have hru' : RV φ u' (.tup [v, .bool true]) := hru'
             cases hru' with
             | tup us _ hus =>
              cases hul : us.toList with
              | nil => rw [hul] at hus; cases hus
              | cons y1 ys =>
               rw [hul] at hus
               cases hus with
               | cons _ _ _ _ hy1 hys =>
                cases hys with
                | cons y2 _ ys2 _ hy2 hys2 =>
                 cases hys2; cases hy2
                 obtain ⟨cs', rfl, hc1, hc2, hc3⟩ := aggOk_ok hy1 (hag v rfl)
                 refine ⟨cs', ?_, hc1, hc2, fun _ => ⟨v, rfl, hc3⟩⟩
                 rw [hrun]
                 have : us = #[.agg cs', .bool true] := Array.toList_inj.1 (by rw [hul])
                 rw [this])
           (by omega) hcu (R.dom _ _ hl).2 (R.dom _ _ hl2').2 (fun j hj => by
            obtain ⟨mj, hmj, e, _⟩ := hget j hj
            rw [e, Nat.add_assoc]; exact hmcell _ _ hmj))
          refine Calls.mono hfin fun e W' ⟨⟨cs', b', he, hcase⟩, hb⟩ => ?_
          subst he
          refine ⟨φ, _, h, rfl, ?_, relBelow R hb, ⟨.refl φ, Nat.le_refl _, hb.size, fun _ _ hh => ⟨hh, rfl⟩⟩⟩
          rcases hcase with ⟨rfl, rfl, hn⟩ | ⟨rfl, xx, hxl, hfx, ⟨v, hv', hrv⟩, hn⟩
          ·have hnone : r = none := by
            rcases sp2 with ⟨e, _⟩ | ⟨xx, m, v, e1, e2, e3, _⟩
            ·exact e
            ·have := hn xx (by rw [← hqlen]; exact (List.getElem?_eq_some_iff.1 e1).1)
             rw [e1] at this; simp only [Option.getD_some, e2] at this; cases this
           subst hnone
           obtain ⟨zv, hzv, hrz⟩ := run_zero zk φ w
           rw [Tryz.zeroValue154] at hzv
           obtain rfl := (Result.ok.inj hzv).1
           exact .tup _ _ (.cons _ _ _ _ hrz (.cons _ _ _ _ (.bool _) .nil))
          ·have hsome : r = some v := by
            have hqx : q[xx]? = some ((q[xx]?).getD .nilm) := by
             cases e : q[xx]? with
             | some a => rfl
             | none => rw [List.getElem?_eq_none_iff] at e; omega
            rcases sp2 with ⟨_, e⟩ | ⟨x2, m, v2, e1, e2, e3, e4⟩
            ·rw [e xx _ hqx] at hv'; simp at hv'
            ·have hx2 : x2 < len := by rw [← hqlen]; exact (List.getElem?_eq_some_iff.1 e1).1
             rcases Nat.lt_trichotomy xx x2 with hlt | rfl | hgt
             ·have := hn x2 hlt hx2
              rw [e1] at this; simp only [Option.getD_some, e2] at this; cases this
             ·rw [e1] at hv'; simp only [Option.getD_some, e2] at hv'
              rw [e3]; simpa using hv'
             ·rw [e4 xx _ hgt hqx] at hv'; simp at hv'
           subst hsome
           exact .tup _ _ (.cons _ _ _ _ hrv (.cons _ _ _ _ (.bool _) .nil))
    ·simp at hx
   ·simp at hx
  ·simp at hx
 ·simp at hx
end
end Go.Proofs.YtakcpnpeadkfpaaGreatDoor.Fi
