/- The law LexMany of chapter 10 returns true whatever its arguments, and its card is tied. No condition. -/
import Derived.Test.YtlfhnopganplfaaGreatDoorRows
import Derived.Test.YtlfhnopganplfaaGreatDoorLm
import Derived.Test.YtlfhnopganplfaaGreatDoorVa
import Derived.Test.YtlfhnopganplfaaGreatDoorTie
import Derived.Test.YtlfhnopganplfaaGreatDoorCards
import Derived.LaidMore
import Derived.Lay
import Derived.SevenTiedAt
import Derived.HandedShaped
import Derived.Shelf.Vars
import Derived.WalkKit
import Derived.ProofKit
import Derived.OpenShut
import Derived.Lib.LaidU8
import Derived.Stop.LaidErr
namespace Go.Proofs.YtlfhnopganplfaaGreatDoor.lexMany
open Go.ChangeShapes Go.WideShapes Go.ChangeAt Go.RowKit
set_option linter.unusedVariables false      -- a walk need not use every 'w<i>' (that an integer argument fits its kind)

theorem handed_shaped {H : Type} {enc : TypeId × Value → H} {a : Assume} {C : Checked} {os : Os} {f : FuncId} {fn : Func} {s : ChangeSpec} {conds : List PathCond} {apart fresh handsOn again : Bool} {X : World → Array Value → Prop}
    (hX : ∀ (w w' : World) (args : Array Value), w.heap = w'.heap → X w args → X w' args)
    (own : ownKnob C.prog.godebug = none) (started : os.Started) (noInit : C.prog.inits.idxOf? f = none) (hfn : C.prog.funcs[f]? = some fn)
    (witness : ∃ (w : World) (tape : Tape) (i : Input), w.os = os ∧ (w.forCall tape i).Shaped C.prog ∧ i.vars = [] ∧ Input.okWide C.prog (w.forCall tape i) .any w.heap.size f i ∧
      ((s.pre enc C.prog fn conds apart (w.forCall tape i).memory i.args ∧ X (w.forCall tape i).memory i.args) ∧ sizedMet enc C.prog fn (OpenSpec.ofChange s) apart (w.forCall tape i).memory i.args) ∧ a.holds C.prog (lone (Frame.enter C.prog f i.args .normal) [] (w.forCall tape i)))
    (contract : ∀ (W : World) (base : Nat) (args : Array Value) (ds gs : List (DataW H)) (before : List MemPlace),
      (∀ (j : Nat) t v, fn.params[j]? = some t → args[j]? = some v → Value.okWide C.prog W .any base t v) →
      DataW.Whole enc C.prog fn.params.toList s.vars apart W args.toList ds gs before → W.ShapedOpen C.prog → X W args →
      Calls C.prog f args W fun e W' => ∃ v, e = .returned v ∧ s.post enc C.prog fn apart fresh handsOn again W args v W') :
    ReturnsInHanded a C os f .any (fun w args => (s.pre enc C.prog fn conds apart w args ∧ X w args) ∧ sizedMet enc C.prog fn (OpenSpec.ofChange s) apart w args) (s.post enc C.prog fn apart fresh handsOn again) := by
  refine returnsInHanded_of_calls own started noInit witness ?_
  intro w tape i _ hsh _ hok hpre hholds
  obtain ⟨_, _, _, fn', hfn', _, _, _, _, hval⟩ := hok
  have e : fn' = fn := Option.some.inj (hfn'.symm.trans hfn)
  subst e
  obtain ⟨⟨⟨ds, gs, before, hw, hc⟩, hx⟩, hz⟩ := hpre
  have hw' := DataW.Whole.of_heap (w' := w.forCall tape i) (by rfl) hw
  refine (contract (w.forCall tape i) w.heap.size i.args ds gs before hval hw' hsh (hX _ _ _ (by rfl) hx)).mono fun e W' ⟨v, he, hp⟩ => ?_
  subst he
  exact ChangeSpec.post_blind hp
theorem star_err : "*" ++ "errors.errorString" = "*errors.errorString" := by decide
theorem row_err (u : TypeId) (h : Tryz.prog.typeName? 3 u = some "*errors.errorString") : u = 96 :=
  typeName_ptr_named (nm := "errors.errorString") (by rw [star_err]; kernel_rfl) (by kernel_rfl) (by decide) u (by rw [star_err]; exact h)
set_option maxRecDepth 100000 in
theorem vars_of {W : World} (hsh : W.ShapedOpen Tryz.prog) (hlaid : laidMetH Tryz.prog Rows.lexManyRow.laid W) : ∃ m lf, Ev.Vars W m lf := by
  rw [MakeChecks.laidMetH_plain _ _ _ (by kernel_rfl)] at hlaid
  obtain ⟨aE, sE, vE, cE, _, _⟩ := laid_sentinel (n := "strconv.ErrRange") (nm := "*errors.errorString") (text := [118, 97, 108, 117, 101, 32, 111, 117, 116, 32, 111, 102, 32, 114, 97, 110, 103, 101]) (hlaid.tail.tail.tail.tail.tail.tail.tail.tail.tail.tail) (by kernel_rfl) (show (Tryz.prog.globals[3]?).map (·.type) = some 52 by kernel_rfl) Tryz.underlying52 row_err Tryz.underlying96 Tryz.underlying98 rfl rfl Tryz.underlying9 (by kernel_rfl) (by kernel_rfl)
  obtain ⟨bE, oE, spE⟩ := aE
  obtain rfl : spE = none := cell_spot cE
  have hltE : bE < W.heap.size := by
    unfold World.cell? at cE
    rcases Nat.lt_or_ge bE W.heap.size with h' | h'
    · exact h'
    · simp [Array.getElem?_eq_none h'] at cE
  have wE := (Va.var_cell (show Tryz.prog.globalNamed "strconv.ErrRange" = some 3 by kernel_rfl) vE).2 0 _ rfl
  obtain ⟨ps, hv, _, _⟩ := hlaid
  obtain ⟨m, hm⟩ : ∃ m, W.cell? ⟨0, 0, none⟩ = some (.int .i64 m) := cell_of_shapedOpen_int (t := 3) (zero := #[.int .i64 0]) hsh (by decide +kernel) (by kernel_rfl) rfl (by kernel_rfl) (by kernel_rfl) Tryz.underlying3
  obtain ⟨g5, t5, cs5, f5, p5, a1, a2, a3, a4⟩ := Va.laid_at (n := "internal/strconv.optimize") (d := Rows.laid_internal_strconv_optimize) hv (List.mem_of_getElem? (i := 4) rfl)
  obtain rfl : 5 = g5 := Option.some.inj ((show Tryz.prog.globalNamed "internal/strconv.optimize" = some 5 by kernel_rfl).symm.trans a1)
  obtain rfl : 4 = t5 := Option.some.inj ((show (Tryz.prog.globals[5]?).map (·.type) = some 4 by kernel_rfl).symm.trans a2)
  obtain ⟨s5, c5⟩ := Va.var_cell a1 a3
  have e5 := Va.leaf_bool Tryz.underlying4 a4
  rw [e5] at c5
  obtain ⟨g6, t6, cs6, f6, p6, a1, a2, a3, a4⟩ := Va.laid_at (n := "internal/strconv.float64info") (d := Rows.laid_internal_strconv_float64info) hv (List.mem_of_getElem? (i := 3) rfl)
  obtain rfl : 6 = g6 := Option.some.inj ((show Tryz.prog.globalNamed "internal/strconv.float64info" = some 6 by kernel_rfl).symm.trans a1)
  obtain rfl : 107 = t6 := Option.some.inj ((show (Tryz.prog.globals[6]?).map (·.type) = some 107 by kernel_rfl).symm.trans a2)
  obtain ⟨s6, c6⟩ := Va.var_cell a1 a3
  have e6 : cs6.toList = [.int .u64 52, .int .u64 11, .int .i64 (-1023)] := by
    obtain ⟨xs, n, rfl, hx, hl, hn, hf⟩ := DataW.trod_struct Tryz.underlying107 a4
    have hl : cs6.toList.length = 3 := hl
    simp only [Prod.mk.injEq, Rows.laid_internal_strconv_float64info, DataW.agg.injEq] at hx
    rcases xs with _ | ⟨x0, _ | ⟨x1, _ | ⟨x2, _ | ⟨x3, xs⟩⟩⟩⟩ <;> simp at hn
    obtain ⟨d0, q0⟩ := x0
    obtain ⟨d1, q1⟩ := x1
    obtain ⟨d2, q2⟩ := x2
    simp at hx
    obtain ⟨⟨rfl, rfl, rfl⟩, _⟩ := hx
    have k39 : Tryz.prog.cellsOf 23 = 1 := by kernel_rfl
    have k3 : Tryz.prog.cellsOf 3 = 1 := by kernel_rfl
    have f0 := hf 0 _ rfl
    have f1 := hf 1 _ rfl
    have f2 := hf 2 _ rfl
    generalize cs6.toList = l at *
    rcases l with _ | ⟨v0, _ | ⟨v1, _ | ⟨v2, _ | ⟨v3, l⟩⟩⟩⟩ <;> simp at hl
    simp [k39, k3] at f0 f1 f2
    have g0 := Va.leaf_int Tryz.underlying23 f0
    have g1 := Va.leaf_int Tryz.underlying23 f1
    have g2 := Va.leaf_int Tryz.underlying3 f2
    simp at g0 g1 g2
    rw [g0, g1, g2]
  rw [e6] at c6
  obtain ⟨g11, t11, cs11, f11, p11, a1, a2, a3, a4⟩ := Va.laid_at (n := "internal/strconv.float64pow10") (d := Rows.laid_internal_strconv_float64pow10) hv (List.mem_of_getElem? (i := 6) rfl)
  obtain rfl : 11 = g11 := Option.some.inj ((show Tryz.prog.globalNamed "internal/strconv.float64pow10" = some 11 by kernel_rfl).symm.trans a1)
  obtain rfl : 147 = t11 := Option.some.inj ((show (Tryz.prog.globals[11]?).map (·.type) = some 147 by kernel_rfl).symm.trans a2)
  obtain ⟨s11, c11⟩ := Va.var_cell a1 a3
  obtain ⟨a, cap, e11, hcap, hrow⟩ := open_row Tryz.underlying147 (by kernel_rfl) a4
  rw [e11] at c11
  have hcap : 23 ≤ cap := hcap
  have hr : ∀ (i : Nat) n, Ev.tabN[i]? = some n → W.cell? (a.add i) = some (.float .f64 n) := fun i n hi => by
    obtain ⟨v, k, q, h1, h2⟩ := hrow i (.lit (.float .f64 n)) (by
      show (Ev.tabN.map fun n => (DataW.lit (.float .f64 n) : DataW Unit))[i]? = _
      rw [List.getElem?_map, hi]; rfl)
    have := Va.leaf_float Tryz.underlying59 h2
    simp at this
    rw [h1, this]
  obtain ⟨b, o, sp⟩ := a
  obtain rfl : sp = none := cell_spot (hr 0 _ rfl)
  have hlt : b < W.heap.size := by
    have h := hr 0 _ rfl
    unfold World.cell? at h
    rcases Nat.lt_or_ge b W.heap.size with h' | h'
    · exact h'
    · simp [Addr.add, Array.getElem?_eq_none h'] at h
  refine ⟨m, ⟨⟨b, o, 1⟩, ⟨bE, oE, 1⟩⟩, ⟨fun i x hi => ?_, c5, c6, ⟨cap, hcap, c11 0 _ rfl⟩, fun i x hi => ?_, by omega, hlt, wE, hltE⟩⟩
  · cases i with
    | zero => simp at hi; subst hi; exact hm
    | succ i => simp at hi
  · have e : Ev.tabV = Ev.tabN.map fun n => Value.float .f64 n := rfl
    rw [e, List.getElem?_map, Option.map_eq_some_iff] at hi
    obtain ⟨n, hn, rfl⟩ := hi
    have h := hr i n hn
    have ha : (⟨b, o, none⟩ : Addr).add i = ⟨b, o + i, none⟩ := by simp [Addr.add]
    rw [ha] at h
    exact h
theorem own : ownKnob Tryz.prog.godebug = none := by kernel_rfl

/-! ### STEP 1: THE WALK: the Go text returns true. 'Ev.GrownO w w'': the world has at most new blocks (Derived/RowKit3.lean). Part the cases AHEAD of 'go_enter' where a test parts the walk; take each callee by a contract of your own. -/
theorem walk (a0 : Int) (a1 : Int) (w0 : (Lit.int .i64 a0).wf = true) (w1 : (Lit.int .i64 a1).wf = true) (w : World) (hm : ∃ m lf, Ev.Vars w m lf) :
    Calls Tryz.prog 3 #[.int .i64 a0, .int .i64 a1] w fun e w' => e = .returned (.bool true) ∧ Ev.GrownO w w' := by
  obtain ⟨m, lf, hm⟩ := hm
  letI := Ev.rhoV m lf rfl
  exact Ev.walk_S (vs := [.int .i64 a0, .int .i64 a1]) (by kernel_rfl) (Lx.okQ m lf) (Lx.run3 m a0 a1) (.cons _ _ _ _ (.int _ _ (Ev.InR.no (by decide))) (.cons _ _ _ _ (.int _ _ (Ev.InR.no (by decide))) .nil)) (Ev.gb_v hm)

/-! ### THE ROW's STEP: WRITTEN OUT: LEAVE IT -/
set_option maxRecDepth 100000 in
theorem lifted (os : Os) (started : os.Started) (H : Type) (enc : TypeId × Value → H) :
    ReturnsInHanded {} Tryz.checked os 3 .any (fun w args => (Rows.lexManySpec.pre enc Tryz.prog Tryz.f3 Rows.lexManyRow.domain false w args ∧ laidMetH Tryz.prog Rows.lexManyRow.laid w) ∧ sizedMet enc Tryz.prog Tryz.f3 (OpenSpec.ofChange Rows.lexManySpec) false w args)
      (Rows.lexManySpec.post enc Tryz.prog Tryz.f3 false true false false) := by
  refine handed_shaped (C := Tryz.checked) (X := fun w _ => laidMetH Tryz.prog Rows.lexManyRow.laid w) (fun _ _ _ hh h => h.of_heap hh) own started (by kernel_rfl) Tryz.func3
    (ChangeSpec.witness_shaped (enc := enc) (C := Tryz.checked) (os := os) (X := fun w _ => laidMetH Tryz.prog Rows.lexManyRow.laid w) false (World.laidAll Tryz.prog os Rows.lexManyRow.laid) #[.int .i64 0, .int .i64 0] 8 (World.laidAll_os _ _ _)
      (World.shaped_of_ZipB (by kernel_rfl) (by kernel_rfl)) (by kernel_rfl) (by kernel_rfl) (by kernel_rfl)
      (by rw [MakeChecks.laidMetH_plain _ _ _ (by kernel_rfl)]; exact laidMet_laidAll _ (by kernel_rfl) (by kernel_rfl))) ?_
  intro W base args ds gs before hval0 hW hsh hlaid
  have hm := vars_of hsh hlaid
  have hval : ∀ (j : Nat) t v, Tryz.f3.params[j]? = some t → args[j]? = some v → Value.okWide Tryz.prog W .any base t v := hval0
  have hW' := hW
  obtain ⟨p, q, hA0, hV, rfl, hfz, hnd⟩ := hW
  have hA : DataW.TrodAll enc Tryz.prog W 0 (fun _ => true) true Tryz.f3.params.toList args.toList ds p := hA0
  rw [Tryz.params3] at hA hval
  obtain ⟨v0, vs0, d0, ds0, p0, q0, hargs, rfl, rfl, h0, r0⟩ := trodAll_cons hA
  obtain ⟨v1, vs1, d1, ds1, p1, q1, rfl, rfl, rfl, h1, r1⟩ := trodAll_cons r0
  obtain ⟨rfl, rfl, rfl⟩ := trodAll_nil r1
  obtain rfl : args = #[v0, v1] := by cases args; simp_all
  obtain ⟨rfl, rfl⟩ := trodVars_none hV
  obtain ⟨a0, rfl, rfl, rfl, w0⟩ := open_int Tryz.underlying3 (hval 0 3 v0 rfl rfl) h0
  obtain ⟨a1, rfl, rfl, rfl, w1⟩ := open_int Tryz.underlying3 (hval 1 3 v1 rfl rfl) h1
  clear hA0 hval0
  simp only [List.append_nil] at hW'
  refine (walk a0 a1 w0 w1 W hm).mono fun e W' ⟨he, hg⟩ => ?_
  subst he
  letI := Ev.rhoV 0 ⟨⟨0, 0, 0⟩, ⟨0, 0, 0⟩⟩ rfl
  exact ⟨_, rfl, Ev.post_of_old (pa := []) (pv := []) hW' (fun _ _ _ => (trodAll_cons_mk (shut_bool Tryz.underlying4 _) trodAll_mk0)) (fun sp _ => (trodAll_cons_mk (shut_int Tryz.underlying3 w0) (trodAll_cons_mk (shut_int Tryz.underlying3 w1) trodAll_mk0))) (fun _ _ => rfl) rfl
    hg (ok_one (by kernel_rfl) rfl (okWide_bool_mk Tryz.underlying4 _))⟩

theorem over : Rows.lexManyRow.holds Tryz.pinned (OpenSpec.ofChange Rows.lexManySpec) :=
  OpenClaim.holds_of_wide 3 Tryz.f3 rfl rfl rfl rfl rfl rfl rfl ⟨rfl, rfl, rfl, rfl, rfl⟩ rfl rfl rfl rfl rfl (by kernel_rfl) Tryz.func3 (by kernel_rfl)
    (of_decide_eq_true (by kernel_rfl)) (by unfold Func.isWrapper; first | (rw [if_pos (by decide +kernel)]; kernel_rfl) | (rw [if_neg (by decide +kernel)]; exact ⟨rfl, rfl⟩))
    (fun os started H enc _ => lifted os started H enc)

/-- The tied card. -/
theorem proved : Rows.LexManyCardSaid :=
  Claim7.holds_tied_plain_at .later [] [.data, .data, .widerDeep, .widerDeep, .data, .data, .data, .data, .data, .data, .sentinel, .sentinel, .pinned, .pinned, .pinned] true (true, "69638d6b5a4091d17337c8adbcbdd362820aa2fffe2302634ae3d0e445ce6a55") true over (fun _ h => by cases h) (by kernel_rfl) (fun _ h => by cases h) lexMany_row_tie rfl ⟨rfl, rfl⟩ (by kernel_rfl) rfl
    (fun f fn hf hfn => by
      obtain rfl : f = 3 := Option.some.inj ((show Tryz.prog.funcNamed "solder/solderlaw10.LexMany" = some 3 by kernel_rfl).symm.trans hf) |>.symm
      obtain rfl : fn = Tryz.f3 := (Option.some.inj (Tryz.func3.symm.trans hfn)).symm
      exact ⟨by kernel_rfl, fun j t ht => by
        rw [Tryz.params3] at ht
        have hm : t ∈ [3] := by
          have := Array.mem_of_getElem? ht
          simpa using this
        have hall : ([3].all fun u => !Tryz.prog.wantsStandIn u) = true := by kernel_rfl
        exact (show Tryz.prog.wantsStandIn t = false by simpa using List.all_eq_true.1 hall t hm)⟩)
    (by kernel_rfl)
#print axioms proved
end Go.Proofs.YtlfhnopganplfaaGreatDoor.lexMany
