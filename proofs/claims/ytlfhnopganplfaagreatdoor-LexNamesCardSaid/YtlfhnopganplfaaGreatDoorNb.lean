/- The law LexNames of chapter 10 returns true whatever its arguments, and its card is tied. No condition. -/
import Derived.Test.YtlfhnopganplfaaGreatDoorRows
import Derived.Test.YtlfhnopganplfaaGreatDoorLh
import Derived.Test.YtlfhnopganplfaaGreatDoorVa
import Derived.Test.YtlfhnopganplfaaGreatDoorTie
import Derived.Test.YtlfhnopganplfaaGreatDoorCards
import Derived.LaidMore
import Derived.Lay
import Derived.SevenTiedAt
import Derived.HandedShaped
import Derived.Shelf.Vars
import Derived.WalkKit
import Derived.ProofKit
import Derived.OpenShut
import Derived.ChangeSlices
import Derived.Carry
import Derived.Lib.LaidU8
import Derived.Stop.LaidErr
namespace Go.Proofs.YtlfhnopganplfaaGreatDoor.lexNames
open Go.ChangeShapes Go.WideShapes Go.ChangeAt Go.RowKit
set_option linter.unusedVariables false      -- a walk need not use every 'w<i>' (that an integer argument fits its kind)

theorem handed_shaped {H : Type} {enc : TypeId × Value → H} {a : Assume} {C : Checked} {os : Os} {f : FuncId} {fn : Func} {s : ChangeSpec} {conds : List PathCond} {apart fresh handsOn again : Bool} {X : World → Array Value → Prop}
    (hX : ∀ (w w' : World) (args : Array Value), w.heap = w'.heap → X w args → X w' args)
    (own : ownKnob C.prog.godebug = none) (started : os.Started) (noInit : C.prog.inits.idxOf? f = none) (hfn : C.prog.funcs[f]? = some fn)
    (witness : ∃ (w : World) (tape : Tape) (i : Input), w.os = os ∧ (w.forCall tape i).Shaped C.prog ∧ i.vars = [] ∧ Input.okWide C.prog (w.forCall tape i) .any w.heap.size f i ∧
      ((s.pre enc C.prog fn conds apart (w.forCall tape i).memory i.args ∧ X (w.forCall tape i).memory i.args) ∧ sizedMet enc C.prog fn (OpenSpec.ofChange s) apart (w.forCall tape i).memory i.args) ∧ a.holds C.prog (lone (Frame.enter C.prog f i.args .normal) [] (w.forCall tape i)))
    (contract : ∀ (W : World) (base : Nat) (args : Array Value) (ds gs : List (DataW H)) (before : List MemPlace),
      (∀ (j : Nat) t v, fn.params[j]? = some t → args[j]? = some v → Value.okWide C.prog W .any base t v) →
      DataW.Whole enc C.prog fn.params.toList s.vars apart W args.toList ds gs before → W.ShapedOpen C.prog → X W args →
      Calls C.prog f args W fun e W' => ∃ v, e = .returned v ∧ s.post enc C.prog fn apart fresh handsOn again W args v W') :
    ReturnsInHanded a C os f .any (fun w args => (s.pre enc C.prog fn conds apart w args ∧ X w args) ∧ sizedMet enc C.prog fn (OpenSpec.ofChange s) apart w args) (s.post enc C.prog fn apart fresh handsOn again) := by
  refine returnsInHanded_of_calls own started noInit witness ?_
  intro w tape i _ hsh _ hok hpre hholds
  obtain ⟨_, _, _, fn', hfn', _, _, _, _, hval⟩ := hok
  have e : fn' = fn := Option.some.inj (hfn'.symm.trans hfn)
  subst e
  obtain ⟨⟨⟨ds, gs, before, hw, hc⟩, hx⟩, hz⟩ := hpre
  have hw' := DataW.Whole.of_heap (w' := w.forCall tape i) (by rfl) hw
  refine (contract (w.forCall tape i) w.heap.size i.args ds gs before hval hw' hsh (hX _ _ _ (by rfl) hx)).mono fun e W' ⟨v, he, hp⟩ => ?_
  subst he
  exact ChangeSpec.post_blind hp
theorem star_err : "*" ++ "errors.errorString" = "*errors.errorString" := by decide
theorem row_err (u : TypeId) (h : Tryz.prog.typeName? 3 u = some "*errors.errorString") : u = 96 :=
  typeName_ptr_named (nm := "errors.errorString") (by rw [star_err]; kernel_rfl) (by kernel_rfl) (by decide) u (by rw [star_err]; exact h)
set_option maxRecDepth 100000 in
theorem vars_of {W : World} (hsh : W.ShapedOpen Tryz.prog) (hlaid : laidMetH Tryz.prog Rows.lexNamesRow.laid W) : ∃ m lf, Ev.Vars W m lf := by
  rw [MakeChecks.laidMetH_plain _ _ _ (by kernel_rfl)] at hlaid
  obtain ⟨aE, sE, vE, cE, _, _⟩ := laid_sentinel (n := "strconv.ErrRange") (nm := "*errors.errorString") (text := [118, 97, 108, 117, 101, 32, 111, 117, 116, 32, 111, 102, 32, 114, 97, 110, 103, 101]) (hlaid.tail.tail.tail.tail.tail.tail.tail.tail.tail.tail) (by kernel_rfl) (show (Tryz.prog.globals[3]?).map (·.type) = some 52 by kernel_rfl) Tryz.underlying52 row_err Tryz.underlying96 Tryz.underlying98 rfl rfl Tryz.underlying9 (by kernel_rfl) (by kernel_rfl)
  obtain ⟨bE, oE, spE⟩ := aE
  obtain rfl : spE = none := cell_spot cE
  have hltE : bE < W.heap.size := by
    unfold World.cell? at cE
    rcases Nat.lt_or_ge bE W.heap.size with h' | h'
    · exact h'
    · simp [Array.getElem?_eq_none h'] at cE
  have wE := (Va.var_cell (show Tryz.prog.globalNamed "strconv.ErrRange" = some 3 by kernel_rfl) vE).2 0 _ rfl
  obtain ⟨ps, hv, _, _⟩ := hlaid
  obtain ⟨m, hm⟩ : ∃ m, W.cell? ⟨0, 0, none⟩ = some (.int .i64 m) := cell_of_shapedOpen_int (t := 3) (zero := #[.int .i64 0]) hsh (by decide +kernel) (by kernel_rfl) rfl (by kernel_rfl) (by kernel_rfl) Tryz.underlying3
  obtain ⟨g5, t5, cs5, f5, p5, a1, a2, a3, a4⟩ := Va.laid_at (n := "internal/strconv.optimize") (d := Rows.laid_internal_strconv_optimize) hv (List.mem_of_getElem? (i := 4) rfl)
  obtain rfl : 5 = g5 := Option.some.inj ((show Tryz.prog.globalNamed "internal/strconv.optimize" = some 5 by kernel_rfl).symm.trans a1)
  obtain rfl : 4 = t5 := Option.some.inj ((show (Tryz.prog.globals[5]?).map (·.type) = some 4 by kernel_rfl).symm.trans a2)
  obtain ⟨s5, c5⟩ := Va.var_cell a1 a3
  have e5 := Va.leaf_bool Tryz.underlying4 a4
  rw [e5] at c5
  obtain ⟨g6, t6, cs6, f6, p6, a1, a2, a3, a4⟩ := Va.laid_at (n := "internal/strconv.float64info") (d := Rows.laid_internal_strconv_float64info) hv (List.mem_of_getElem? (i := 3) rfl)
  obtain rfl : 6 = g6 := Option.some.inj ((show Tryz.prog.globalNamed "internal/strconv.float64info" = some 6 by kernel_rfl).symm.trans a1)
  obtain rfl : 107 = t6 := Option.some.inj ((show (Tryz.prog.globals[6]?).map (·.type) = some 107 by kernel_rfl).symm.trans a2)
  obtain ⟨s6, c6⟩ := Va.var_cell a1 a3
  have e6 : cs6.toList = [.int .u64 52, .int .u64 11, .int .i64 (-1023)] := by
    obtain ⟨xs, n, rfl, hx, hl, hn, hf⟩ := DataW.trod_struct Tryz.underlying107 a4
    have hl : cs6.toList.length = 3 := hl
    simp only [Prod.mk.injEq, Rows.laid_internal_strconv_float64info, DataW.agg.injEq] at hx
    rcases xs with _ | ⟨x0, _ | ⟨x1, _ | ⟨x2, _ | ⟨x3, xs⟩⟩⟩⟩ <;> simp at hn
    obtain ⟨d0, q0⟩ := x0
    obtain ⟨d1, q1⟩ := x1
    obtain ⟨d2, q2⟩ := x2
    simp at hx
    obtain ⟨⟨rfl, rfl, rfl⟩, _⟩ := hx
    have k39 : Tryz.prog.cellsOf 23 = 1 := by kernel_rfl
    have k3 : Tryz.prog.cellsOf 3 = 1 := by kernel_rfl
    have f0 := hf 0 _ rfl
    have f1 := hf 1 _ rfl
    have f2 := hf 2 _ rfl
    generalize cs6.toList = l at *
    rcases l with _ | ⟨v0, _ | ⟨v1, _ | ⟨v2, _ | ⟨v3, l⟩⟩⟩⟩ <;> simp at hl
    simp [k39, k3] at f0 f1 f2
    have g0 := Va.leaf_int Tryz.underlying23 f0
    have g1 := Va.leaf_int Tryz.underlying23 f1
    have g2 := Va.leaf_int Tryz.underlying3 f2
    simp at g0 g1 g2
    rw [g0, g1, g2]
  rw [e6] at c6
  obtain ⟨g11, t11, cs11, f11, p11, a1, a2, a3, a4⟩ := Va.laid_at (n := "internal/strconv.float64pow10") (d := Rows.laid_internal_strconv_float64pow10) hv (List.mem_of_getElem? (i := 6) rfl)
  obtain rfl : 11 = g11 := Option.some.inj ((show Tryz.prog.globalNamed "internal/strconv.float64pow10" = some 11 by kernel_rfl).symm.trans a1)
  obtain rfl : 147 = t11 := Option.some.inj ((show (Tryz.prog.globals[11]?).map (·.type) = some 147 by kernel_rfl).symm.trans a2)
  obtain ⟨s11, c11⟩ := Va.var_cell a1 a3
  obtain ⟨a, cap, e11, hcap, hrow⟩ := open_row Tryz.underlying147 (by kernel_rfl) a4
  rw [e11] at c11
  have hcap : 23 ≤ cap := hcap
  have hr : ∀ (i : Nat) n, Ev.tabN[i]? = some n → W.cell? (a.add i) = some (.float .f64 n) := fun i n hi => by
    obtain ⟨v, k, q, h1, h2⟩ := hrow i (.lit (.float .f64 n)) (by
      show (Ev.tabN.map fun n => (DataW.lit (.float .f64 n) : DataW Unit))[i]? = _
      rw [List.getElem?_map, hi]; rfl)
    have := Va.leaf_float Tryz.underlying59 h2
    simp at this
    rw [h1, this]
  obtain ⟨b, o, sp⟩ := a
  obtain rfl : sp = none := cell_spot (hr 0 _ rfl)
  have hlt : b < W.heap.size := by
    have h := hr 0 _ rfl
    unfold World.cell? at h
    rcases Nat.lt_or_ge b W.heap.size with h' | h'
    · exact h'
    · simp [Addr.add, Array.getElem?_eq_none h'] at h
  refine ⟨m, ⟨⟨b, o, 1⟩, ⟨bE, oE, 1⟩⟩, ⟨fun i x hi => ?_, c5, c6, ⟨cap, hcap, c11 0 _ rfl⟩, fun i x hi => ?_, by omega, hlt, wE, hltE⟩⟩
  · cases i with
    | zero => simp at hi; subst hi; exact hm
    | succ i => simp at hi
  · have e : Ev.tabV = Ev.tabN.map fun n => Value.float .f64 n := rfl
    rw [e, List.getElem?_map, Option.map_eq_some_iff] at hi
    obtain ⟨n, hn, rfl⟩ := hi
    have h := hr i n hn
    have ha : (⟨b, o, none⟩ : Addr).add i = ⟨b, o + i, none⟩ := by simp [Addr.add]
    rw [ha] at h
    exact h
theorem own : ownKnob Tryz.prog.godebug = none := by kernel_rfl

/-! ### STEP 1: THE WALK: the Go text returns true. 'Ev.GrownO w w'': the world has at most new blocks (Derived/RowKit3.lean). Part the cases AHEAD of 'go_enter' where a test parts the walk; take each callee by a contract of your own. -/
theorem laidOut : laidOutB Tryz.prog = true := by kernel_rfl
theorem cells5 : Tryz.prog.cellsOf 5 = 1 := by kernel_rfl
theorem walk_at {m : Int} {lf : Ev.VL} {xs : List Ev.AV} {h : Ev.HP} {vs : List Value} {φ : Ev.Phi} {w : World} (R : @Ev.Rel (Ev.rhoV m lf rfl) w φ h w) (hv : @Ev.RVs (Ev.rhoV m lf rfl) φ vs xs) (he : ∃ h2, Ev.SF Lx.tabM 900 5 xs h .no = some (.ret (.bool true) h2, .no)) :
    Calls Tryz.prog 5 vs.toArray w fun e w' => e = .returned (.bool true) ∧ Ev.GrownO w w' ∧ Below w.heap.size w w' := by
  letI := Ev.rhoV m lf rfl
  obtain ⟨h2, hh⟩ := he
  have ht := Lx.okM m lf
  refine Calls.mono (Ev.calls_ok (by kernel_rfl) (Ev.ST.xok w ht) (Ev.ST.tab_ok ht) (Ev.SF_ok ht 900 _ _ _ _ _ hh) R hv) fun e w' hR => ?_
  cases e with
  | returned v =>
    obtain ⟨φ', a, h', hf, hr, q, _⟩ := hR
    simp only [Ev.Fin.ret.injEq] at hf
    obtain ⟨rfl, rfl⟩ := hf
    cases hr
    exact ⟨rfl, Ev.grown_of q, ⟨q.os, q.tape, q.output, q.size, q.old⟩⟩
  | panicked ch => obtain ⟨_, _, _, hf, _⟩ := hR; simp at hf
  | outgrown => exact hR.elim
theorem nats_of : ∀ {l : List Int}, (∀ n ∈ l, (Lit.int .u8 n).wf = true) → ∃ bs : List Nat, l = bs.map Int.ofNat ∧ ∀ c ∈ bs, c ≤ 255
  | [], _ => ⟨[], rfl, fun c hc => by simp at hc⟩
  | z :: l, h => by
    obtain ⟨bs, e, hb⟩ := nats_of (l := l) fun n hn => h n (by simp [hn])
    have hz := h z (by simp)
    simp [Lit.wf, IntKind.min, IntKind.max, IntKind.signed, IntKind.bits] at hz
    obtain ⟨k, rfl⟩ := Int.eq_ofNat_of_zero_le (a := z) (by omega)
    refine ⟨k :: bs, by rw [e]; rfl, fun c hc => ?_⟩
    rcases List.mem_cons.1 hc with rfl | hc
    · omega
    · exact hb c hc
theorem rvs_b {m : Int} {lf : Ev.VL} {φ : Ev.Phi} : ∀ bs : List Nat, @Ev.RVs (Ev.rhoV m lf rfl) φ (bs.map fun c => Value.int .u8 (Int.ofNat c)) (bs.map Lx.bv)
  | [] => @Ev.RVs.nil (Ev.rhoV m lf rfl) φ
  | c :: bs => by
    letI := Ev.rhoV m lf rfl
    exact .cons _ _ _ _ (.int _ _ (Ev.InR.no (by decide))) (rvs_b bs)
theorem walk_nil (w : World) (hm : ∃ m lf, Ev.Vars w m lf) : Calls Tryz.prog 5 #[.slice none 0 0] w fun e w' => e = .returned (.bool true) ∧ Ev.GrownO w w' ∧ Below w.heap.size w w' := by
  obtain ⟨m, lf, hm⟩ := hm
  letI := Ev.rhoV m lf rfl
  exact walk_at (vs := [.slice none 0 0]) (Ev.rel_start (Ev.gb_v hm)) (.cons _ _ _ _ .nils .nil) (Lx.run5n m)
theorem walk_row (a : Addr) (len cap : Nat) (zs : List Int) (w : World) (hm : ∃ m lf, Ev.Vars w m lf) (hl : len ≤ cap) (hz : zs.length = cap) (hb : 0 < len → a.block < w.heap.size) (hcell : ∀ i, i < zs.length → w.cell? (a.add i) = some (.int .u8 (zs.getD i 0))) (hwz : ∀ n ∈ zs, (Lit.int .u8 n).wf = true) :
    Calls Tryz.prog 5 #[.slice (some a) len cap] w fun e w' => e = .returned (.bool true) ∧ Ev.GrownO w w' ∧ Below w.heap.size w w' := by
  obtain ⟨m, lf, hm⟩ := hm
  letI := Ev.rhoV m lf rfl
  have R0 := Ev.rel_start (Ev.gb_v hm)
  have ro : ∀ b k, Ev.HP.get Ev.Rho.g0 b = some k → k.wr = false := fun b k hk => by obtain ⟨vs, rfl⟩ := Ev.Rho.gro b k hk; rfl
  rcases Nat.eq_zero_or_pos len with rfl | hpos
  · have hs := hm.hs
    have R1 := (Ev.Rel.row R0 ro (l := ⟨0, 0, 0⟩) (cs := []) (vs := []) (by show 0 < w.heap.size; omega) .nil (fun i v hv => by simp at hv)).1
    exact walk_at (vs := [.slice (some a) 0 cap]) R1 (.cons _ _ _ _ (.slice0 a _ 0 cap) .nil) (Lx.run5 m (bs := []) (fun c hc => by simp at hc))
  · obtain ⟨b, o, sp⟩ := a
    obtain rfl : sp = none := cell_spot (hcell 0 (by omega))
    obtain ⟨bs, e, hbs⟩ := nats_of (l := zs.take len) fun n hn => hwz n (List.mem_of_mem_take hn)
    have hlen : bs.length = len := by have := congrArg List.length e; simp at this; omega
    have R1 := (Ev.Rel.row R0 ro (l := ⟨b, o, 0⟩) (cs := bs.map fun c => Value.int .u8 (Int.ofNat c)) (vs := bs.map Lx.bv) (hb hpos) (rvs_b bs) (fun i v hv => by
      rw [List.getElem?_map] at hv
      obtain ⟨c, hc, rfl⟩ := Option.map_eq_some_iff.1 hv
      have hi : i < bs.length := (List.getElem?_eq_some_iff.1 hc).1
      have h1 := hcell i (by omega)
      have h2 : (zs.take len)[i]? = some (Int.ofNat c) := by rw [e, List.getElem?_map, hc]; rfl
      rw [List.getElem?_take, if_pos (by omega)] at h2
      rw [List.getD_eq_getElem?_getD, h2] at h1
      have ha : (⟨b, o, none⟩ : Addr).add i = ⟨b, o + i, none⟩ := by simp [Addr.add]
      rw [ha] at h1
      exact h1)).1
    subst hlen
    exact walk_at (vs := [.slice (some ⟨b, o, none⟩) bs.length cap]) R1 (.cons _ _ _ _ (.slice _ 0 bs.length cap .unk ⟨b, o, 0⟩ (if_pos rfl) hl (fun k e => by cases e) (fun z e => by cases e)) .nil) (Lx.run5 m hbs)

/-! ### THE ROW's STEP: WRITTEN OUT: LEAVE IT -/
set_option maxRecDepth 100000 in
theorem lifted (os : Os) (started : os.Started) (H : Type) (enc : TypeId × Value → H) :
    ReturnsInHanded {} Tryz.checked os 5 .any (fun w args => (Rows.lexNamesSpec.pre enc Tryz.prog Tryz.f5 Rows.lexNamesRow.domain false w args ∧ laidMetH Tryz.prog Rows.lexNamesRow.laid w) ∧ sizedMet enc Tryz.prog Tryz.f5 (OpenSpec.ofChange Rows.lexNamesSpec) false w args)
      (Rows.lexNamesSpec.post enc Tryz.prog Tryz.f5 false true false false) := by
  refine handed_shaped (C := Tryz.checked) (X := fun w _ => laidMetH Tryz.prog Rows.lexNamesRow.laid w) (fun _ _ _ hh h => h.of_heap hh) own started (by kernel_rfl) Tryz.func5
    (ChangeSpec.witness_shaped (enc := enc) (C := Tryz.checked) (os := os) (X := fun w _ => laidMetH Tryz.prog Rows.lexNamesRow.laid w) false (World.laidAll Tryz.prog os Rows.lexNamesRow.laid) #[.slice none 0 0] 8 (World.laidAll_os _ _ _)
      (World.shaped_of_ZipB (by kernel_rfl) (by kernel_rfl)) (by kernel_rfl) (by kernel_rfl) (by kernel_rfl)
      (by rw [MakeChecks.laidMetH_plain _ _ _ (by kernel_rfl)]; exact laidMet_laidAll _ (by kernel_rfl) (by kernel_rfl))) ?_
  intro W base args ds gs before hval0 hW hsh hlaid
  have hm := vars_of hsh hlaid
  have hval : ∀ (j : Nat) t v, Tryz.f5.params[j]? = some t → args[j]? = some v → Value.okWide Tryz.prog W .any base t v := hval0
  have hW' := hW
  obtain ⟨p, q, hA0, hV, rfl, hfz, hnd⟩ := hW
  have hA : DataW.TrodAll enc Tryz.prog W 0 (fun _ => true) true Tryz.f5.params.toList args.toList ds p := hA0
  rw [Tryz.params5] at hA hval
  obtain ⟨v0, vs0, d0, ds0, p0, q0, hargs, rfl, rfl, h0, r0⟩ := trodAll_cons hA
  obtain ⟨rfl, rfl, rfl⟩ := trodAll_nil r0
  obtain rfl : args = #[v0] := by cases args; simp_all
  obtain ⟨rfl, rfl⟩ := trodVars_none hV
  obtain ⟨a0, len, cap, rfl⟩ := okWide_slice Tryz.underlying24 (hval 0 24 v0 rfl rfl)
  clear hA0 hval0
  have h0k := h0
  obtain ⟨fuel, hf⟩ := h0
  simp only [List.append_nil] at hW'
  have hlt : ∀ x ∈ p0, x.block < W.heap.size := fun x hx => hW'.lt x (by simpa using hx)
  have key : Calls Tryz.prog 5 #[.slice a0 len cap] W fun e w' => e = .returned (.bool true) ∧ Ev.GrownO W w' ∧ Below W.heap.size W w' := by
    rcases open_ints Tryz.underlying24 Tryz.underlying5 cells5 hf with ⟨hcs, hx⟩ | ⟨a, len', cap', zs, hcs, _, hl, hm', hz, hx, hcell, hwz⟩
    · simp [Value.cells] at hcs
      obtain ⟨rfl, rfl, rfl⟩ := hcs
      exact walk_nil W hm
    · simp [Value.cells] at hcs
      obtain ⟨rfl, rfl, rfl⟩ := hcs
      simp only [Prod.mk.injEq] at hx
      obtain ⟨rfl, rfl⟩ := hx
      simp only [if_true] at hz
      refine walk_row a len cap zs W hm hl hz (fun hpos => ?_) hcell hwz
      obtain ⟨b, off, spot⟩ := a
      exact hlt (.cell b off) (MemPlace.mem_row.2 ⟨0, by omega, by simp⟩)
  refine key.mono fun e W' ⟨he, hg, hbl⟩ => ?_
  subst he
  letI := Ev.rhoV 0 ⟨⟨0, 0, 0⟩, ⟨0, 0, 0⟩⟩ rfl
  exact ⟨_, rfl, Ev.post_of_old (pa := p0) (pv := []) hW' (fun _ _ _ => (trodAll_cons_mk (shut_bool Tryz.underlying4 _) trodAll_mk0))
    (fun sp hsp => by
      have hs := WideElems.Trod_stays (sp' := sp) laidOut (by kernel_rfl) (of_decide_eq_true (by kernel_rfl)) h0k (fun x hx => hbl.same (hlt x hx)) (fun x hx => hsp x (by simpa using hx))
      have := trodAll_cons_mk hs trodAll_mk0
      rw [List.append_nil] at this
      exact this) (fun _ _ => rfl) (by simp)
    hg (ok_one (by kernel_rfl) rfl (okWide_bool_mk Tryz.underlying4 _))⟩

theorem over : Rows.lexNamesRow.holds Tryz.pinned (OpenSpec.ofChange Rows.lexNamesSpec) :=
  OpenClaim.holds_of_wide 5 Tryz.f5 rfl rfl rfl rfl rfl rfl rfl ⟨rfl, rfl, rfl, rfl, rfl⟩ rfl rfl rfl rfl rfl (by kernel_rfl) Tryz.func5 (by kernel_rfl)
    (of_decide_eq_true (by kernel_rfl)) (by unfold Func.isWrapper; first | (rw [if_pos (by decide +kernel)]; kernel_rfl) | (rw [if_neg (by decide +kernel)]; exact ⟨rfl, rfl⟩))
    (fun os started H enc _ => lifted os started H enc)

/-- The tied card. -/
theorem proved : Rows.LexNamesCardSaid :=
  Claim7.holds_tied_plain_at .later [] [.data, .data, .widerDeep, .widerDeep, .data, .data, .data, .data, .data, .data, .sentinel, .sentinel, .pinned, .pinned, .pinned] true (true, "69638d6b5a4091d17337c8adbcbdd362820aa2fffe2302634ae3d0e445ce6a55") true over (fun _ h => by cases h) (by kernel_rfl) (fun _ h => by cases h) lexNames_row_tie rfl ⟨rfl, rfl⟩ (by kernel_rfl) rfl
    (fun f fn hf hfn => by
      obtain rfl : f = 5 := Option.some.inj ((show Tryz.prog.funcNamed "solder/solderlaw10.LexNames" = some 5 by kernel_rfl).symm.trans hf) |>.symm
      obtain rfl : fn = Tryz.f5 := (Option.some.inj (Tryz.func5.symm.trans hfn)).symm
      exact ⟨by kernel_rfl, fun j t ht => by
        rw [Tryz.params5] at ht
        have hm : t ∈ [24] := by
          have := Array.mem_of_getElem? ht
          simpa using this
        have hall : ([24].all fun u => !Tryz.prog.wantsStandIn u) = true := by kernel_rfl
        exact (show Tryz.prog.wantsStandIn t = false by simpa using List.all_eq_true.1 hall t hm)⟩)
    (by kernel_rfl)
#print axioms proved
end Go.Proofs.YtlfhnopganplfaaGreatDoor.lexNames
