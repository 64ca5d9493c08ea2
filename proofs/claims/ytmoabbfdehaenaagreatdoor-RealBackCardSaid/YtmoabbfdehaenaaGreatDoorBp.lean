/- The law RealBack of chapter 2 returns true whatever its arguments, and its card is tied. No condition. -/
import Derived.Test.YtmoabbfdehaenaaGreatDoorRows
import Derived.Test.YtmoabbfdehaenaaGreatDoorBh
import Derived.Test.YtmoabbfdehaenaaGreatDoorVa
import Derived.Test.YtmoabbfdehaenaaGreatDoorTie
import Derived.Test.YtmoabbfdehaenaaGreatDoorCards
import Derived.LaidMore
import Derived.Lay
import Derived.SevenTiedAt
import Derived.HandedShaped
import Derived.Shelf.Vars
import Derived.WalkKit
import Derived.ProofKit
import Derived.OpenShut
import Derived.Lib.LaidU8
namespace Go.Proofs.YtmoabbfdehaenaaGreatDoor.realBack
open Go.ChangeShapes Go.WideShapes Go.ChangeAt Go.RowKit
set_option linter.unusedVariables false      -- a walk need not use every 'w<i>' (that an integer argument fits its kind)

theorem handed_shaped {H : Type} {enc : TypeId × Value → H} {a : Assume} {C : Checked} {os : Os} {f : FuncId} {fn : Func} {s : ChangeSpec} {conds : List PathCond} {apart fresh handsOn again : Bool} {X : World → Array Value → Prop}
    (hX : ∀ (w w' : World) (args : Array Value), w.heap = w'.heap → X w args → X w' args)
    (own : ownKnob C.prog.godebug = none) (started : os.Started) (noInit : C.prog.inits.idxOf? f = none) (hfn : C.prog.funcs[f]? = some fn)
    (witness : ∃ (w : World) (tape : Tape) (i : Input), w.os = os ∧ (w.forCall tape i).Shaped C.prog ∧ i.vars = [] ∧ Input.okWide C.prog (w.forCall tape i) .any w.heap.size f i ∧
      ((s.pre enc C.prog fn conds apart (w.forCall tape i).memory i.args ∧ X (w.forCall tape i).memory i.args) ∧ sizedMet enc C.prog fn (OpenSpec.ofChange s) apart (w.forCall tape i).memory i.args) ∧ a.holds C.prog (lone (Frame.enter C.prog f i.args .normal) [] (w.forCall tape i)))
    (contract : ∀ (W : World) (base : Nat) (args : Array Value) (ds gs : List (DataW H)) (before : List MemPlace),
      (∀ (j : Nat) t v, fn.params[j]? = some t → args[j]? = some v → Value.okWide C.prog W .any base t v) →
      DataW.Whole enc C.prog fn.params.toList s.vars apart W args.toList ds gs before → W.ShapedOpen C.prog → X W args →
      Calls C.prog f args W fun e W' => ∃ v, e = .returned v ∧ s.post enc C.prog fn apart fresh handsOn again W args v W') :
    ReturnsInHanded a C os f .any (fun w args => (s.pre enc C.prog fn conds apart w args ∧ X w args) ∧ sizedMet enc C.prog fn (OpenSpec.ofChange s) apart w args) (s.post enc C.prog fn apart fresh handsOn again) := by
  refine returnsInHanded_of_calls own started noInit witness ?_
  intro w tape i _ hsh _ hok hpre hholds
  obtain ⟨_, _, _, fn', hfn', _, _, _, _, hval⟩ := hok
  have e : fn' = fn := Option.some.inj (hfn'.symm.trans hfn)
  subst e
  obtain ⟨⟨⟨ds, gs, before, hw, hc⟩, hx⟩, hz⟩ := hpre
  have hw' := DataW.Whole.of_heap (w' := w.forCall tape i) (by rfl) hw
  refine (contract (w.forCall tape i) w.heap.size i.args ds gs before hval hw' hsh (hX _ _ _ (by rfl) hx)).mono fun e W' ⟨v, he, hp⟩ => ?_
  subst he
  exact ChangeSpec.post_blind hp
set_option maxRecDepth 100000 in
theorem vars_of {W : World} (hsh : W.ShapedOpen Tryz.prog) (hlaid : laidMetH Tryz.prog Rows.realBackRow.laid W) : ∃ m lf, Ev.Vars W m lf := by
  rw [MakeChecks.laidMetH_plain _ _ _ (by kernel_rfl)] at hlaid
  obtain ⟨ps, hv, _, _⟩ := hlaid
  obtain ⟨g6, t6, cs6, f6, p6, a1, a2, a3, a4⟩ := Va.laid_at (n := "internal/strconv.optimize") (d := Rows.laid_internal_strconv_optimize) hv (List.mem_of_getElem? (i := 4) rfl)
  obtain rfl : 6 = g6 := Option.some.inj ((show Tryz.prog.globalNamed "internal/strconv.optimize" = some 6 by kernel_rfl).symm.trans a1)
  obtain rfl : 4 = t6 := Option.some.inj ((show (Tryz.prog.globals[6]?).map (·.type) = some 4 by kernel_rfl).symm.trans a2)
  obtain ⟨s6, c6⟩ := Va.var_cell a1 a3
  have e6 := Va.leaf_bool Tryz.underlying4 a4
  rw [e6] at c6
  obtain ⟨g7, t7, cs7, f7, p7, a1, a2, a3, a4⟩ := Va.laid_at (n := "internal/strconv.float64info") (d := Rows.laid_internal_strconv_float64info) hv (List.mem_of_getElem? (i := 3) rfl)
  obtain rfl : 7 = g7 := Option.some.inj ((show Tryz.prog.globalNamed "internal/strconv.float64info" = some 7 by kernel_rfl).symm.trans a1)
  obtain rfl : 141 = t7 := Option.some.inj ((show (Tryz.prog.globals[7]?).map (·.type) = some 141 by kernel_rfl).symm.trans a2)
  obtain ⟨s7, c7⟩ := Va.var_cell a1 a3
  have e7 : cs7.toList = [.int .u64 52, .int .u64 11, .int .i64 (-1023)] := by
    obtain ⟨xs, n, rfl, hx, hl, hn, hf⟩ := DataW.trod_struct Tryz.underlying141 a4
    have hl : cs7.toList.length = 3 := hl
    simp only [Prod.mk.injEq, Rows.laid_internal_strconv_float64info, DataW.agg.injEq] at hx
    rcases xs with _ | ⟨x0, _ | ⟨x1, _ | ⟨x2, _ | ⟨x3, xs⟩⟩⟩⟩ <;> simp at hn
    obtain ⟨d0, q0⟩ := x0
    obtain ⟨d1, q1⟩ := x1
    obtain ⟨d2, q2⟩ := x2
    simp at hx
    obtain ⟨⟨rfl, rfl, rfl⟩, _⟩ := hx
    have k39 : Tryz.prog.cellsOf 60 = 1 := by kernel_rfl
    have k3 : Tryz.prog.cellsOf 3 = 1 := by kernel_rfl
    have f0 := hf 0 _ rfl
    have f1 := hf 1 _ rfl
    have f2 := hf 2 _ rfl
    generalize cs7.toList = l at *
    rcases l with _ | ⟨v0, _ | ⟨v1, _ | ⟨v2, _ | ⟨v3, l⟩⟩⟩⟩ <;> simp at hl
    simp [k39, k3] at f0 f1 f2
    have g0 := Va.leaf_int Tryz.underlying60 f0
    have g1 := Va.leaf_int Tryz.underlying60 f1
    have g2 := Va.leaf_int Tryz.underlying3 f2
    simp at g0 g1 g2
    rw [g0, g1, g2]
  rw [e7] at c7
  obtain ⟨g9, t9, cs9, f9, p9, a1, a2, a3, a4⟩ := Va.laid_at (n := "math/bits.deBruijn64tab") (d := Rows.laid_math_bits_deBruijn64tab) hv (List.mem_of_getElem? (i := 1) rfl)
  obtain rfl : 9 = g9 := Option.some.inj ((show Tryz.prog.globalNamed "math/bits.deBruijn64tab" = some 9 by kernel_rfl).symm.trans a1)
  obtain rfl : 158 = t9 := Option.some.inj ((show (Tryz.prog.globals[9]?).map (·.type) = some 158 by kernel_rfl).symm.trans a2)
  obtain ⟨s9, c9⟩ := Va.var_cell a1 a3
  have cT : ∀ (i : Nat) x, Ev.tbV[i]? = some x → W.cell? ⟨9, 0 + i, none⟩ = some x := fun i x hi => by
    have e : Ev.tbV = Ev.tbN.map fun n => Value.int .u8 (Int.ofNat n) := rfl
    rw [e, List.getElem?_map, Option.map_eq_some_iff] at hi
    obtain ⟨n, hn, rfl⟩ := hi
    have hlt : i < 64 := (List.getElem?_eq_some_iff.1 hn).1
    obtain ⟨f', d, q, h1, h2⟩ := Lib.array_elem Tryz.underlying158 a4 i hlt
    have hd : (Ev.tbN.map fun n => (DataW.lit (.int .u8 (Int.ofNat n)) : DataW Unit))[i]? = some d := h1
    rw [List.getElem?_map, hn] at hd
    obtain rfl := Option.some.inj hd
    have k5 : Tryz.prog.cellsOf 5 = 1 := by kernel_rfl
    rw [k5] at h2
    have h3 := Va.leaf_int Tryz.underlying5 h2
    refine c9 i _ ?_
    have h4 := congrArg (·[0]?) h3
    simp only [List.getElem?_take, List.getElem?_drop] at h4
    simpa using h4
  obtain ⟨g14, t14, cs14, f14, p14, a1, a2, a3, a4⟩ := Va.laid_at (n := "internal/strconv.float64pow10") (d := Rows.laid_internal_strconv_float64pow10) hv (List.mem_of_getElem? (i := 6) rfl)
  obtain rfl : 14 = g14 := Option.some.inj ((show Tryz.prog.globalNamed "internal/strconv.float64pow10" = some 14 by kernel_rfl).symm.trans a1)
  obtain rfl : 180 = t14 := Option.some.inj ((show (Tryz.prog.globals[14]?).map (·.type) = some 180 by kernel_rfl).symm.trans a2)
  obtain ⟨s14, c14⟩ := Va.var_cell a1 a3
  obtain ⟨a, cap, e14, hcap, hrow⟩ := open_row Tryz.underlying180 (by kernel_rfl) a4
  rw [e14] at c14
  have hcap : 23 ≤ cap := hcap
  have hr : ∀ (i : Nat) n, Ev.tabN[i]? = some n → W.cell? (a.add i) = some (.float .f64 n) := fun i n hi => by
    obtain ⟨v, k, q, h1, h2⟩ := hrow i (.lit (.float .f64 n)) (by
      show (Ev.tabN.map fun n => (DataW.lit (.float .f64 n) : DataW Unit))[i]? = _
      rw [List.getElem?_map, hi]; rfl)
    have := Va.leaf_float Tryz.underlying35 h2
    simp at this
    rw [h1, this]
  obtain ⟨b, o, sp⟩ := a
  obtain rfl : sp = none := cell_spot (hr 0 _ rfl)
  have hlt : b < W.heap.size := by
    have h := hr 0 _ rfl
    unfold World.cell? at h
    rcases Nat.lt_or_ge b W.heap.size with h' | h'
    · exact h'
    · simp [Addr.add, Array.getElem?_eq_none h'] at h
  refine ⟨0, ⟨b, o, 1⟩, ⟨c6, c7, cT, ⟨cap, hcap, c14 0 _ rfl⟩, fun i x hi => ?_, by omega, hlt⟩⟩
  · have e : Ev.tabV = Ev.tabN.map fun n => Value.float .f64 n := rfl
    rw [e, List.getElem?_map, Option.map_eq_some_iff] at hi
    obtain ⟨n, hn, rfl⟩ := hi
    have h := hr i n hn
    have ha : (⟨b, o, none⟩ : Addr).add i = ⟨b, o + i, none⟩ := by simp [Addr.add]
    rw [ha] at h
    exact h
theorem own : ownKnob Tryz.prog.godebug = none := by kernel_rfl

/-! ### STEP 1: THE WALK: the Go text returns true. 'Ev.GrownO w w'': the world has at most new blocks (Derived/RowKit3.lean). Part the cases AHEAD of 'go_enter' where a test parts the walk; take each callee by a contract of your own. -/
theorem walk (a0 : Int) (a1 : Int) (w0 : (Lit.int .u64 a0).wf = true) (w1 : (Lit.int .u32 a1).wf = true) (w : World) (hm : ∃ m lf, Ev.Vars w m lf) :
    Calls Tryz.prog 4 #[.int .u64 a0, .int .u32 a1] w fun e w' => e = .returned (.bool true) ∧ Ev.GrownO w w' := by
  have h64 : ∀ {a : Int}, (Lit.int .u64 a).wf = true → (0 : Int) ≤ a ∧ a < 18446744073709551616 := fun h => by
    simp [Lit.wf, IntKind.min, IntKind.max, IntKind.signed, IntKind.bits] at h
    omega
  have h32 : ∀ {a : Int}, (Lit.int .u32 a).wf = true → (0 : Int) ≤ a ∧ a < 4294967296 := fun h => by
    simp [Lit.wf, IntKind.min, IntKind.max, IntKind.signed, IntKind.bits] at h
    omega
  have b0 := (h64 w0).2
  have b1 := (h32 w1).2
  obtain ⟨x, rfl⟩ := Int.eq_ofNat_of_zero_le (h64 w0).1
  obtain ⟨y, rfl⟩ := Int.eq_ofNat_of_zero_le (h32 w1).1
  obtain ⟨m, lf, hm⟩ := hm
  letI := Ev.rhoV m lf rfl
  exact Ev.walk_S (vs := [.int .u64 (.ofNat x), .int .u32 (.ofNat y)]) (by kernel_rfl) (Lx.okB m lf) (Lx.run_back m (by omega) (by omega)) (.cons _ _ _ _ (.int _ _ (Ev.InR.no (by decide))) (.cons _ _ _ _ (.int _ _ (Ev.InR.nat (by omega))) .nil)) (Ev.gb_v hm)

/-! ### THE ROW's STEP: WRITTEN OUT: LEAVE IT -/
set_option maxRecDepth 100000 in
theorem lifted (os : Os) (started : os.Started) (H : Type) (enc : TypeId × Value → H) :
    ReturnsInHanded {} Tryz.checked os 4 .any (fun w args => (Rows.realBackSpec.pre enc Tryz.prog Tryz.f4 Rows.realBackRow.domain false w args ∧ laidMetH Tryz.prog Rows.realBackRow.laid w) ∧ sizedMet enc Tryz.prog Tryz.f4 (OpenSpec.ofChange Rows.realBackSpec) false w args)
      (Rows.realBackSpec.post enc Tryz.prog Tryz.f4 false true false false) := by
  refine handed_shaped (C := Tryz.checked) (X := fun w _ => laidMetH Tryz.prog Rows.realBackRow.laid w) (fun _ _ _ hh h => h.of_heap hh) own started (by kernel_rfl) Tryz.func4
    (ChangeSpec.witness_shaped (enc := enc) (C := Tryz.checked) (os := os) (X := fun w _ => laidMetH Tryz.prog Rows.realBackRow.laid w) false (World.laidAll Tryz.prog os Rows.realBackRow.laid) #[.int .u64 0, .int .u32 0] 8 (World.laidAll_os _ _ _)
      (World.shaped_of_ZipB (by kernel_rfl) (by kernel_rfl)) (by kernel_rfl) (by kernel_rfl) (by kernel_rfl)
      (by rw [MakeChecks.laidMetH_plain _ _ _ (by kernel_rfl)]; exact laidMet_laidAll _ (by kernel_rfl) (by kernel_rfl))) ?_
  intro W base args ds gs before hval0 hW hsh hlaid
  have hm := vars_of hsh hlaid
  have hval : ∀ (j : Nat) t v, Tryz.f4.params[j]? = some t → args[j]? = some v → Value.okWide Tryz.prog W .any base t v := hval0
  have hW' := hW
  obtain ⟨p, q, hA0, hV, rfl, hfz, hnd⟩ := hW
  have hA : DataW.TrodAll enc Tryz.prog W 0 (fun _ => true) true Tryz.f4.params.toList args.toList ds p := hA0
  rw [Tryz.params4] at hA hval
  obtain ⟨v0, vs0, d0, ds0, p0, q0, hargs, rfl, rfl, h0, r0⟩ := trodAll_cons hA
  obtain ⟨v1, vs1, d1, ds1, p1, q1, rfl, rfl, rfl, h1, r1⟩ := trodAll_cons r0
  obtain ⟨rfl, rfl, rfl⟩ := trodAll_nil r1
  obtain rfl : args = #[v0, v1] := by cases args; simp_all
  obtain ⟨rfl, rfl⟩ := trodVars_none hV
  obtain ⟨a0, rfl, rfl, rfl, w0⟩ := open_int Tryz.underlying22 (hval 0 22 v0 rfl rfl) h0
  obtain ⟨a1, rfl, rfl, rfl, w1⟩ := open_int Tryz.underlying23 (hval 1 23 v1 rfl rfl) h1
  clear hA0 hval0
  simp only [List.append_nil] at hW'
  refine (walk a0 a1 w0 w1 W hm).mono fun e W' ⟨he, hg⟩ => ?_
  subst he
  letI := Ev.rhoV 0 ⟨0, 0, 0⟩ rfl
  exact ⟨_, rfl, Ev.post_of_old (pa := []) (pv := []) hW' (fun _ _ _ => (trodAll_cons_mk (shut_bool Tryz.underlying4 _) trodAll_mk0)) (fun sp _ => (trodAll_cons_mk (shut_int Tryz.underlying22 w0) (trodAll_cons_mk (shut_int Tryz.underlying23 w1) trodAll_mk0))) (fun _ _ => rfl) rfl
    hg (ok_one (by kernel_rfl) rfl (okWide_bool_mk Tryz.underlying4 _))⟩

theorem over : Rows.realBackRow.holds Tryz.pinned (OpenSpec.ofChange Rows.realBackSpec) :=
  OpenClaim.holds_of_wide 4 Tryz.f4 rfl rfl rfl rfl rfl rfl rfl ⟨rfl, rfl, rfl, rfl, rfl⟩ rfl rfl rfl rfl rfl (by kernel_rfl) Tryz.func4 (by kernel_rfl)
    (of_decide_eq_true (by kernel_rfl)) (by unfold Func.isWrapper; first | (rw [if_pos (by decide +kernel)]; kernel_rfl) | (rw [if_neg (by decide +kernel)]; exact ⟨rfl, rfl⟩))
    (fun os started H enc _ => lifted os started H enc)

/-- The tied card. -/
theorem proved : Rows.RealBackCardSaid :=
  Claim7.holds_tied_plain_at .later [] [.data, .data, .widerDeep, .widerDeep, .data, .data, .data, .data, .data, .data, .sentinel, .sentinel, .pinned, .pinned, .pinned] true (true, "defb18d870a1b34b6e8e7b910f77e7a586c31ee36423317166a879f69d1fb5f3") true over (fun _ h => by cases h) (by kernel_rfl) (fun _ h => by cases h) realBack_row_tie rfl ⟨rfl, rfl⟩ (by kernel_rfl) rfl
    (fun f fn hf hfn => by
      obtain rfl : f = 4 := Option.some.inj ((show Tryz.prog.funcNamed "solder/solderlaw02.RealBack" = some 4 by kernel_rfl).symm.trans hf) |>.symm
      obtain rfl : fn = Tryz.f4 := (Option.some.inj (Tryz.func4.symm.trans hfn)).symm
      exact ⟨by kernel_rfl, fun j t ht => by
        rw [Tryz.params4] at ht
        have hm : t ∈ [22, 23] := by
          have := Array.mem_of_getElem? ht
          simpa using this
        have hall : ([22, 23].all fun u => !Tryz.prog.wantsStandIn u) = true := by kernel_rfl
        exact (show Tryz.prog.wantsStandIn t = false by simpa using List.all_eq_true.1 hall t hm)⟩)
    (by kernel_rfl)
#print axioms proved
end Go.Proofs.YtmoabbfdehaenaaGreatDoor.realBack
