/- The law ParseDeep of chapter 11 returns true whatever its arguments, and its card is tied: the kernel runs the 100 texts that differ. No condition. -/
import Derived.Test.YtomglhellgmbkaaGreatDoorRows
import Derived.Test.YtomglhellgmbkaaGreatDoorDr0
import Derived.Test.YtomglhellgmbkaaGreatDoorDr1
import Derived.Test.YtomglhellgmbkaaGreatDoorDr2
import Derived.Test.YtomglhellgmbkaaGreatDoorDr3
import Derived.Test.YtomglhellgmbkaaGreatDoorTie
import Derived.Test.YtomglhellgmbkaaGreatDoorCards
import Derived.LaidMore
import Derived.Lay
import Derived.SevenTiedAt
import Derived.HandedShaped
import Derived.Shelf.Vars
import Derived.WalkKit
import Derived.ProofKit
import Derived.OpenShut
namespace Go.Proofs.YtomglhellgmbkaaGreatDoor.Sx
open Go Go.Proofs.YtomglhellgmbkaaGreatDoor.Ev
theorem allDfalse (m : Int) (a : Nat) (ha : a < 50) : oD m a false = true := by
  have h : a = 0 ∨ a = 1 ∨ a = 2 ∨ a = 3 ∨ a = 4 ∨ a = 5 ∨ a = 6 ∨ a = 7 ∨ a = 8 ∨ a = 9 ∨ a = 10 ∨ a = 11 ∨ a = 12 ∨ a = 13 ∨ a = 14 ∨ a = 15 ∨ a = 16 ∨ a = 17 ∨ a = 18 ∨ a = 19 ∨ a = 20 ∨ a = 21 ∨ a = 22 ∨ a = 23 ∨ a = 24 ∨ a = 25 ∨ a = 26 ∨ a = 27 ∨ a = 28 ∨ a = 29 ∨ a = 30 ∨ a = 31 ∨ a = 32 ∨ a = 33 ∨ a = 34 ∨ a = 35 ∨ a = 36 ∨ a = 37 ∨ a = 38 ∨ a = 39 ∨ a = 40 ∨ a = 41 ∨ a = 42 ∨ a = 43 ∨ a = 44 ∨ a = 45 ∨ a = 46 ∨ a = 47 ∨ a = 48 ∨ a = 49 := by omega
  rcases h with rfl | rfl | rfl | rfl | rfl | rfl | rfl | rfl | rfl | rfl | rfl | rfl | rfl | rfl | rfl | rfl | rfl | rfl | rfl | rfl | rfl | rfl | rfl | rfl | rfl | rfl | rfl | rfl | rfl | rfl | rfl | rfl | rfl | rfl | rfl | rfl | rfl | rfl | rfl | rfl | rfl | rfl | rfl | rfl | rfl | rfl | rfl | rfl | rfl | rfl
  · exact (gD0 m)
  · exact (gD1 m)
  · exact (gD2 m)
  · exact (gD3 m)
  · exact (gD4 m)
  · exact (gD5 m)
  · exact (gD6 m)
  · exact (gD7 m)
  · exact (gD8 m)
  · exact (gD9 m)
  · exact (gD10 m)
  · exact (gD11 m)
  · exact (gD12 m)
  · exact (gD13 m)
  · exact (gD14 m)
  · exact (gD15 m)
  · exact (gD16 m)
  · exact (gD17 m)
  · exact (gD18 m)
  · exact (gD19 m)
  · exact (gD20 m)
  · exact (gD21 m)
  · exact (gD22 m)
  · exact (gD23 m)
  · exact (gD24 m)
  · exact (gD25 m)
  · exact (gD26 m)
  · exact (gD27 m)
  · exact (gD28 m)
  · exact (gD29 m)
  · exact (gD30 m)
  · exact (gD31 m)
  · exact (gD32 m)
  · exact (gD33 m)
  · exact (gD34 m)
  · exact (gD35 m)
  · exact (gD36 m)
  · exact (gD37 m)
  · exact (gD38 m)
  · exact (gD39 m)
  · exact (gD40 m)
  · exact (gD41 m)
  · exact (gD42 m)
  · exact (gD43 m)
  · exact (gD44 m)
  · exact (gD45 m)
  · exact (gD46 m)
  · exact (gD47 m)
  · exact (gD48 m)
  · exact (gD49 m)
theorem allDtrue (m : Int) (a : Nat) (ha : a < 50) : oD m a true = true := by
  have h : a = 0 ∨ a = 1 ∨ a = 2 ∨ a = 3 ∨ a = 4 ∨ a = 5 ∨ a = 6 ∨ a = 7 ∨ a = 8 ∨ a = 9 ∨ a = 10 ∨ a = 11 ∨ a = 12 ∨ a = 13 ∨ a = 14 ∨ a = 15 ∨ a = 16 ∨ a = 17 ∨ a = 18 ∨ a = 19 ∨ a = 20 ∨ a = 21 ∨ a = 22 ∨ a = 23 ∨ a = 24 ∨ a = 25 ∨ a = 26 ∨ a = 27 ∨ a = 28 ∨ a = 29 ∨ a = 30 ∨ a = 31 ∨ a = 32 ∨ a = 33 ∨ a = 34 ∨ a = 35 ∨ a = 36 ∨ a = 37 ∨ a = 38 ∨ a = 39 ∨ a = 40 ∨ a = 41 ∨ a = 42 ∨ a = 43 ∨ a = 44 ∨ a = 45 ∨ a = 46 ∨ a = 47 ∨ a = 48 ∨ a = 49 := by omega
  rcases h with rfl | rfl | rfl | rfl | rfl | rfl | rfl | rfl | rfl | rfl | rfl | rfl | rfl | rfl | rfl | rfl | rfl | rfl | rfl | rfl | rfl | rfl | rfl | rfl | rfl | rfl | rfl | rfl | rfl | rfl | rfl | rfl | rfl | rfl | rfl | rfl | rfl | rfl | rfl | rfl | rfl | rfl | rfl | rfl | rfl | rfl | rfl | rfl | rfl | rfl
  · exact (gD50 m)
  · exact (gD51 m)
  · exact (gD52 m)
  · exact (gD53 m)
  · exact (gD54 m)
  · exact (gD55 m)
  · exact (gD56 m)
  · exact (gD57 m)
  · exact (gD58 m)
  · exact (gD59 m)
  · exact (gD60 m)
  · exact (gD61 m)
  · exact (gD62 m)
  · exact (gD63 m)
  · exact (gD64 m)
  · exact (gD65 m)
  · exact (gD66 m)
  · exact (gD67 m)
  · exact (gD68 m)
  · exact (gD69 m)
  · exact (gD70 m)
  · exact (gD71 m)
  · exact (gD72 m)
  · exact (gD73 m)
  · exact (gD74 m)
  · exact (gD75 m)
  · exact (gD76 m)
  · exact (gD77 m)
  · exact (gD78 m)
  · exact (gD79 m)
  · exact (gD80 m)
  · exact (gD81 m)
  · exact (gD82 m)
  · exact (gD83 m)
  · exact (gD84 m)
  · exact (gD85 m)
  · exact (gD86 m)
  · exact (gD87 m)
  · exact (gD88 m)
  · exact (gD89 m)
  · exact (gD90 m)
  · exact (gD91 m)
  · exact (gD92 m)
  · exact (gD93 m)
  · exact (gD94 m)
  · exact (gD95 m)
  · exact (gD96 m)
  · exact (gD97 m)
  · exact (gD98 m)
  · exact (gD99 m)
theorem runD (m n : Int) (b : Bool) : isTrue (SF tabA 1000 4 [.int .i64 n, .bool b] (h0G m) .no) = true := by
  rw [enterD, ← modD]
  cases b
  · exact allDfalse m (rem50 n) (rem50_lt n)
  · exact allDtrue m (rem50 n) (rem50_lt n)
end Go.Proofs.YtomglhellgmbkaaGreatDoor.Sx
namespace Go.Proofs.YtomglhellgmbkaaGreatDoor.parseDeep
open Go.ChangeShapes Go.WideShapes Go.ChangeAt Go.RowKit
set_option linter.unusedVariables false      -- a walk need not use every 'w<i>' (that an integer argument fits its kind)

theorem handed_shaped {H : Type} {enc : TypeId × Value → H} {a : Assume} {C : Checked} {os : Os} {f : FuncId} {fn : Func} {s : ChangeSpec} {conds : List PathCond} {apart fresh handsOn again : Bool} {X : World → Array Value → Prop}
    (hX : ∀ (w w' : World) (args : Array Value), w.heap = w'.heap → X w args → X w' args)
    (own : ownKnob C.prog.godebug = none) (started : os.Started) (noInit : C.prog.inits.idxOf? f = none) (hfn : C.prog.funcs[f]? = some fn)
    (witness : ∃ (w : World) (tape : Tape) (i : Input), w.os = os ∧ (w.forCall tape i).Shaped C.prog ∧ i.vars = [] ∧ Input.okWide C.prog (w.forCall tape i) .any w.heap.size f i ∧
      ((s.pre enc C.prog fn conds apart (w.forCall tape i).memory i.args ∧ X (w.forCall tape i).memory i.args) ∧ sizedMet enc C.prog fn (OpenSpec.ofChange s) apart (w.forCall tape i).memory i.args) ∧ a.holds C.prog (lone (Frame.enter C.prog f i.args .normal) [] (w.forCall tape i)))
    (contract : ∀ (W : World) (base : Nat) (args : Array Value) (ds gs : List (DataW H)) (before : List MemPlace),
      (∀ (j : Nat) t v, fn.params[j]? = some t → args[j]? = some v → Value.okWide C.prog W .any base t v) →
      DataW.Whole enc C.prog fn.params.toList s.vars apart W args.toList ds gs before → W.ShapedOpen C.prog → X W args →
      Calls C.prog f args W fun e W' => ∃ v, e = .returned v ∧ s.post enc C.prog fn apart fresh handsOn again W args v W') :
    ReturnsInHanded a C os f .any (fun w args => (s.pre enc C.prog fn conds apart w args ∧ X w args) ∧ sizedMet enc C.prog fn (OpenSpec.ofChange s) apart w args) (s.post enc C.prog fn apart fresh handsOn again) := by
  refine returnsInHanded_of_calls own started noInit witness ?_
  intro w tape i _ hsh _ hok hpre hholds
  obtain ⟨_, _, _, fn', hfn', _, _, _, _, hval⟩ := hok
  have e : fn' = fn := Option.some.inj (hfn'.symm.trans hfn)
  subst e
  obtain ⟨⟨⟨ds, gs, before, hw, hc⟩, hx⟩, hz⟩ := hpre
  have hw' := DataW.Whole.of_heap (w' := w.forCall tape i) (by rfl) hw
  refine (contract (w.forCall tape i) w.heap.size i.args ds gs before hval hw' hsh (hX _ _ _ (by rfl) hx)).mono fun e W' ⟨v, he, hp⟩ => ?_
  subst he
  exact ChangeSpec.post_blind hp
theorem own : ownKnob Tryz.prog.godebug = none := by kernel_rfl

/-! ### STEP 1: THE WALK: the Go text returns true. 'Ev.GrownO w w'': the world has at most new blocks (Derived/RowKit3.lean). Part the cases AHEAD of 'go_enter' where a test parts the walk; take each callee by a contract of your own. -/
theorem walk (a0 : Int) (a1 : Bool) (w0 : (Lit.int .i64 a0).wf = true) (w : World) (hm : ∃ m, w.cell? ⟨0, 0, none⟩ = some (.int .i64 m)) :
    Calls Tryz.prog 4 #[.int .i64 a0, .bool a1] w fun e w' => e = .returned (.bool true) ∧ Ev.GrownO w w' := by
  obtain ⟨m, hm⟩ := hm
  letI := Ev.rhoG m rfl
  exact Ev.walk_S (vs := [.int .i64 a0, .bool a1]) (by kernel_rfl) (Sx.okA m) (Sx.runD m a0 a1) (.cons _ _ _ _ (.int _ _ (Ev.InR.no (by decide))) (.cons _ _ _ _ (.bool _) .nil)) (Ev.gb_of hm)

/-! ### THE ROW's STEP: WRITTEN OUT: LEAVE IT -/
set_option maxRecDepth 100000 in
theorem lifted (os : Os) (started : os.Started) (H : Type) (enc : TypeId × Value → H) :
    ReturnsInHanded {} Tryz.checked os 4 .any (fun w args => (Rows.parseDeepSpec.pre enc Tryz.prog Tryz.f4 Rows.parseDeepRow.domain false w args ∧ laidMetH Tryz.prog Rows.parseDeepRow.laid w) ∧ sizedMet enc Tryz.prog Tryz.f4 (OpenSpec.ofChange Rows.parseDeepSpec) false w args)
      (Rows.parseDeepSpec.post enc Tryz.prog Tryz.f4 false true false false) := by
  refine handed_shaped (C := Tryz.checked) (X := fun w _ => laidMetH Tryz.prog Rows.parseDeepRow.laid w) (fun _ _ _ hh h => h.of_heap hh) own started (by kernel_rfl) Tryz.func4
    (ChangeSpec.witness_shaped (enc := enc) (C := Tryz.checked) (os := os) (X := fun w _ => laidMetH Tryz.prog Rows.parseDeepRow.laid w) false (World.laidAll Tryz.prog os Rows.parseDeepRow.laid) #[.int .i64 0, .bool false] 8 (World.laidAll_os _ _ _)
      (World.shaped_of_ZipB (by kernel_rfl) (by kernel_rfl)) (by kernel_rfl) (by kernel_rfl) (by kernel_rfl)
      (by rw [MakeChecks.laidMetH_plain _ _ _ (by kernel_rfl)]; exact laidMet_laidAll _ (by kernel_rfl) (by kernel_rfl))) ?_
  intro W base args ds gs before hval0 hW hsh _
  have hm : ∃ m, W.cell? ⟨0, 0, none⟩ = some (.int .i64 m) := cell_of_shapedOpen_int (t := 3) (zero := #[.int .i64 0]) hsh (by decide +kernel) (by kernel_rfl) rfl (by kernel_rfl) (by kernel_rfl) Tryz.underlying3
  have hval : ∀ (j : Nat) t v, Tryz.f4.params[j]? = some t → args[j]? = some v → Value.okWide Tryz.prog W .any base t v := hval0
  have hW' := hW
  obtain ⟨p, q, hA0, hV, rfl, hfz, hnd⟩ := hW
  have hA : DataW.TrodAll enc Tryz.prog W 0 (fun _ => true) true Tryz.f4.params.toList args.toList ds p := hA0
  rw [Tryz.params4] at hA hval
  obtain ⟨v0, vs0, d0, ds0, p0, q0, hargs, rfl, rfl, h0, r0⟩ := trodAll_cons hA
  obtain ⟨v1, vs1, d1, ds1, p1, q1, rfl, rfl, rfl, h1, r1⟩ := trodAll_cons r0
  obtain ⟨rfl, rfl, rfl⟩ := trodAll_nil r1
  obtain rfl : args = #[v0, v1] := by cases args; simp_all
  obtain ⟨rfl, rfl⟩ := trodVars_none hV
  obtain ⟨a0, rfl, rfl, rfl, w0⟩ := open_int Tryz.underlying3 (hval 0 3 v0 rfl rfl) h0
  obtain ⟨a1, rfl, rfl, rfl⟩ := open_bool Tryz.underlying4 (hval 1 4 v1 rfl rfl) h1
  clear hA0 hval0
  simp only [List.append_nil] at hW'
  refine (walk a0 a1 w0 W hm).mono fun e W' ⟨he, hg⟩ => ?_
  subst he
  letI := Ev.rhoG 0 rfl
  exact ⟨_, rfl, Ev.post_of_old (pa := []) (pv := []) hW' (fun _ _ _ => (trodAll_cons_mk (shut_bool Tryz.underlying4 _) trodAll_mk0)) (fun sp _ => (trodAll_cons_mk (shut_int Tryz.underlying3 w0) (trodAll_cons_mk (shut_bool Tryz.underlying4 _) trodAll_mk0))) (fun _ _ => rfl) rfl
    hg (ok_one (by kernel_rfl) rfl (okWide_bool_mk Tryz.underlying4 _))⟩

theorem over : Rows.parseDeepRow.holds Tryz.pinned (OpenSpec.ofChange Rows.parseDeepSpec) :=
  OpenClaim.holds_of_wide 4 Tryz.f4 rfl rfl rfl rfl rfl rfl rfl ⟨rfl, rfl, rfl, rfl, rfl⟩ rfl rfl rfl rfl rfl (by kernel_rfl) Tryz.func4 (by kernel_rfl)
    (of_decide_eq_true (by kernel_rfl)) (by unfold Func.isWrapper; first | (rw [if_pos (by decide +kernel)]; kernel_rfl) | (rw [if_neg (by decide +kernel)]; exact ⟨rfl, rfl⟩))
    (fun os started H enc _ => lifted os started H enc)

/-- The tied card. -/
theorem proved : Rows.ParseDeepCardSaid :=
  Claim7.holds_tied_plain_at .later [] [.data, .data, .widerDeep, .widerDeep, .data, .data, .data, .data, .data, .data, .sentinel, .sentinel, .pinned, .pinned, .pinned] true (true, "6bf5fd88224ff7ca0a0d943de97c4e99d9405ce3b24fe914cdcd250bc6cef7a1") true over (fun _ h => by cases h) (by kernel_rfl) (fun _ h => by cases h) parseDeep_row_tie rfl ⟨rfl, rfl⟩ (by kernel_rfl) rfl
    (fun f fn hf hfn => by
      obtain rfl : f = 4 := Option.some.inj ((show Tryz.prog.funcNamed "solder/solderlaw11.ParseDeep" = some 4 by kernel_rfl).symm.trans hf) |>.symm
      obtain rfl : fn = Tryz.f4 := (Option.some.inj (Tryz.func4.symm.trans hfn)).symm
      exact ⟨by kernel_rfl, fun j t ht => by
        rw [Tryz.params4] at ht
        have hm : t ∈ [3, 4] := by
          have := Array.mem_of_getElem? ht
          simpa using this
        have hall : ([3, 4].all fun u => !Tryz.prog.wantsStandIn u) = true := by kernel_rfl
        exact (show Tryz.prog.wantsStandIn t = false by simpa using List.all_eq_true.1 hall t hm)⟩)
    (by kernel_rfl)
#print axioms proved
end Go.Proofs.YtomglhellgmbkaaGreatDoor.parseDeep
