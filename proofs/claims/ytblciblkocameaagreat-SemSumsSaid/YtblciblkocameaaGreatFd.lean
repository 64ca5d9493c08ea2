/- A framework for walks: Regions whose order is drawn: the theorem. Regions and code. Regions that end in two stores, in whatever order. A loop over a map that stores one truth value behind each pointer that the map holds: in whichever order. A loop over a map that stores one truth value behind each pointer that the map holds: the walk. A loop over a map that stores one truth value behind each pointer that the map holds: the theorem. -/
import Derived.Test.YtblciblkocameaaGreatFc
import Derived.Scope
import Derived.Maps.RangeRun
set_option linter.unusedVariables false
set_option linter.unusedSimpArgs false
set_option linter.unusedSectionVars false
namespace Go.Proofs.YtblciblkocameaaGreat.Ev
open Go
variable [Rho]
section
variable {P : Program} {nt : Nat} {ops : Array Oper} {bef : Nat → Nat} {c : List Nat} {call : CallF} {re : Nat → List Re} {N : Nat} {st : Nat → St} {out : Out}
variable {B : Base} {S : Nat → Prop} {φ φ' : Phi} {a : Act} {cs : List Frame} {w w' : World} {b j i : Nat} {o : Oper}

theorem again1_true {g : Option (Pos × Bool)} {q : LO} {d : Pos} {fr : T AV} {h : HP} {v : AV} (ha : again1 ⟨g, q, d⟩ fr h = true) (hg : wantedA g fr = some true) (hd : T.get d fr = some v) : evL q fr h = some v := by
  unfold again1 at ha
  rw [hg] at ha
  simp only at ha
  cases he : evL q fr h with
  | none => rw [he] at ha; simp at ha
  | some u =>
    rw [he, hd] at ha
    have := beqA_eq (x := u) (y := v) ha
    rw [this]

theorem againO_mem {op : AOp} {x : Re} {fr : T AV} {h : HP} {re : List Re} (hm : x ∈ re) (ha : againO op re fr h = true) : again1 x fr h = true ∨ ∃ q, op = .e q ∧ disj q x.l fr = true := by
  cases op with
  | e q =>
    have ha : againE q re fr h = true := ha
    induction re with
    | nil => simp at hm
    | cons y re ih =>
      have ha : (Bool.casesOn (bif disj q y.l fr then true else again1 y fr h) false (againE q re fr h) : Bool) = true := ha
      cases hb : (bif disj q y.l fr then true else again1 y fr h) with
      | false => rw [hb] at ha; simp at ha
      | true =>
        rw [hb] at ha
        rcases List.mem_cons.1 hm with rfl | hm
        · cases hd : disj q x.l fr with
          | true => exact .inr ⟨q, rfl, hd⟩
          | false => rw [hd] at hb; exact .inl hb
        · exact ih hm ha ha
  | _ => exact .inl (again_mem hm ha)
omit [Rho] in
theorem farP_true {x y : Option AV} (h : farP x y = true) : ∃ b o c p, x = some (.ptr b o) ∧ y = some (.ptr c p) ∧ c ≠ b := by
  cases x with
  | none => exact ff h
  | some x =>
    cases y with
    | none => exact ff h
    | some y =>
      cases x <;> try exact ff h
      cases y <;> try exact ff h
      rename_i b o c p
      refine ⟨b, o, c, p, rfl, rfl, fun e => ?_⟩
      subst e
      have h : (Bool.rec true false (beqPos c c) : Bool) = true := h
      rw [(beqPos_iff c c).2 rfl] at h
      exact ff h
theorem storeAt_get {b c : Pos} {o : Nat} {vs : List AV} {h h' : HP} (hs : storeAt b o vs h = some h') (hne : c ≠ b) : h'.get c = h.get c := by
  unfold storeAt at hs
  obtain ⟨k, hk, hs⟩ := ob_eq hs
  split at hs
  · obtain ⟨_, hs⟩ := bif_eq hs
    obtain ⟨q, _, hs⟩ := ob_eq hs
    simp only [Option.some.injEq] at hs; subst hs
    rw [HP.get_put, if_neg hne]
  · simp at hs
theorem evL_far {l : LO} {p : Opd} {fr : T AV} {h h' : HP} {c : Pos} {o : Nat} (hl : srcO l = some p) (hp : opv fr p = some (.ptr c o)) (hg : h'.get c = h.get c) : evL l fr h' = evL l fr h := by
  have no : ∀ {C : Prop}, (none : Option Opd) = some p → C := fun e => by simp at e
  cases l with
  | cell a =>
    obtain rfl : a = p := Option.some.inj (show some a = some p from hl)
    show (ob (opv fr a) fun a => cellV a h') = ob (opv fr a) fun a => cellV a h
    rw [hp]
    show (ob (h'.get c) _) = ob (h.get c) _
    rw [hg]
  | cells n a =>
    obtain rfl : a = p := Option.some.inj (show some a = some p from hl)
    show (ob (opv fr a) fun a => cellsV n a h') = ob (opv fr a) fun a => cellsV n a h
    rw [hp]
    show (ob (h'.get c) _) = ob (h.get c) _
    rw [hg]
  | _ => exact no hl
theorem evL_disj {q : EO} {l : LO} {fr : T AV} {h h' : HP} {u : AV} (hd : disj q l fr = true) (he : evE q fr h = some (u, h')) : evL l fr h' = evL l fr h := by
  unfold disj at hd
  split at hd
  · rename_i a p ha hp
    obtain ⟨b, o, c, o', h1, h2, hne⟩ := farP_true hd
    refine evL_far hp h2 ?_
    have no : ∀ {C : Prop}, (none : Option Opd) = some a → C := fun e => by simp at e
    cases q <;> try exact no ha
    · rename_i a' x'
      obtain rfl : a' = a := Option.some.inj (show some a' = some a from ha)
      simp only [evE, h1, ob_some] at he
      obtain ⟨x, _, he⟩ := ob_eq he
      obtain ⟨h2, hs, he⟩ := ob_eq he
      simp only [Option.some.injEq, Prod.mk.injEq] at he
      obtain ⟨_, rfl⟩ := he
      exact storeAt_get (show storeAt b o [x] h = some h2 from hs) hne
    · rename_i n' a' x'
      obtain rfl : a' = a := Option.some.inj (show some a' = some a from ha)
      simp only [evE, h1, ob_some] at he
      obtain ⟨x, _, he⟩ := ob_eq he
      obtain ⟨h2, hs, he⟩ := ob_eq he
      simp only [Option.some.injEq, Prod.mk.injEq] at he
      obtain ⟨_, rfl⟩ := he
      cases x <;> try exact absurd (show (none : Option HP) = some h2 from hs) (by simp)
      rename_i cs _
      obtain ⟨_, hs⟩ := bif_eq (show (bif Nat.beq (lenL cs) n' then storeAt b o cs h else none) = some h2 from hs)
      exact storeAt_get hs hne
  · simp at hd

theorem Inv.reload (pl : Plan P nt ops bef c) (ru : Runs P nt ops call c re N st out) (iv : Inv P nt ops bef c N st B S φ a cs w b) (hi : c[b]? = some i) (hr : ∀ k, (bef i).testBit k = true → S k)
    (hre : rechecks (ops.map (trOper P nt ops)) bef i c = some (re b)) {h' : HP} {aop : AOp} (hae : ∀ q, aop = .e q → ∃ v, evE q (st b).fr (st b).h = some (v, h')) (hag : againO aop (re b) (st b).fr h' = true) :
    ∀ (j i : Nat) (o : Oper) (q : LO) (v : AV), j < b → c[j]? = some i → ops[i]? = some o → ¬ S i → wantedA (trOper P nt ops o).guard (st j).fr = some true → (trOper P nt ops o).op = .l q → evL q (st j).fr (st j).h = some v → evL q (st j).fr h' = some v := by
  intro j i2 o q v hj hi2 ho hnS hw hop hev
  have hbN := iv.ble
  have mp : ∀ {i : Nat} {o : Oper}, ops[i]? = some o → (ops.map (trOper P nt ops))[i]? = some (trOper P nt ops o) := by intro i o h; simp [h]
  have hbit : (bef i).testBit i2 = false := by
    cases hb : (bef i).testBit i2 with
    | false => rfl
    | true => exact absurd (hr _ hb) hnS
  obtain ⟨d, hd, hdr, hall, hmem⟩ := rechecks_spec hre hi2 (fun j' hj' he => by have := pl.inj j' b i he hi; omega) (mp ho) hop hbit
  have hag2 := againO_mem hmem hag
  have szm : (ops.map (trOper P nt ops)).size = ops.size := by simp
  have keep : ∀ p, p ∈ (trOper P nt ops o).reads → T.get p (st b).fr = T.get p (st j).fr := by
    intro p hp
    refine ru.keep pl b (by omega) hbN fun j'' i'' o'' g1 g2 hi'' ho'' hd'' => ?_
    by_cases e : i'' = i2
    · subst e
      rw [ho] at ho''; simp only [Option.some.injEq] at ho''; subst ho''
      rw [hd] at hd''; simp only [Option.some.injEq] at hd''; subst hd''
      exact hdr hp
    · have := hall i'' p (by rw [szm]; exact pl.lt _ _ hi'') e (by rw [mp ho'']; exact hd'') (by unfold AOper.names; exact List.mem_append_right _ hp)
      obtain ⟨j3, g3, g4⟩ := pl.lin j i2 i'' hi2 this
      have := pl.inj j3 j'' i'' g4 hi''
      omega
  obtain ⟨g, b', hg, hdd, e1, e2, hw', hs⟩ := stepO_inv (ru.step j i2 o (by omega) hi2 ho)
  have hval : T.get d (st (j + 1)).fr = some v := by
    rw [e2] at hw
    rw [hw] at hw'
    simp only [Option.some.injEq] at hw'; subst hw'
    rcases hs with ⟨h, _⟩ | ⟨_, aop, ht, e3, hs⟩
    · simp at h
    · rw [hop] at e3; subst e3
      simp only [evOp, evOpC, hev, ob_some, Option.some.injEq, Out.normal.injEq] at hs
      rw [← hs]
      show T.get d (putD (o.dst.map posOf) v (st j).fr) = some v
      rw [get_putD, ← e1, if_pos hd]
  have hval' : T.get d (st b).fr = some v := by
    rw [← hval]
    refine ru.keep pl b (by omega) hbN fun j'' i'' o'' g1 g2 hi'' ho'' hd'' => ?_
    by_cases e : i'' = i2
    · subst e; have := pl.inj j'' j i'' hi'' hi2; omega
    · have := hall i'' d (by rw [szm]; exact pl.lt _ _ hi'') e (by rw [mp ho'']; exact hd'') (by unfold AOper.names; rw [hd]; simp)
      obtain ⟨j3, g3, g4⟩ := pl.lin j i2 i'' hi2 this
      have := pl.inj j3 j'' i'' g4 hi''
      omega
  have hgw : wantedA (trOper P nt ops o).guard (st b).fr = some true := by
    rw [← hw]
    cases hgd : (trOper P nt ops o).guard with
    | none => rfl
    | some pw =>
      obtain ⟨p, wt⟩ := pw
      have : T.get p (st b).fr = T.get p (st j).fr := keep p (by unfold AOper.reads; rw [hgd]; simp [guardL])
      simp only [wantedA, this]
  have cg : ∀ H, evL q (st j).fr H = evL q (st b).fr H := fun H => by
    refine (evL_congr fun x hx => ?_).symm
    cases x with
    | c v => rfl
    | t p => exact keep p (by unfold AOper.reads; rw [hop]; exact List.mem_append_left _ (List.mem_flatMap.2 ⟨_, hx, by simp [Opd.tmp]⟩))
  rcases hag2 with h1 | ⟨qe, rfl, hdj⟩
  · have h2 := again1_true h1 hgw hval'
    rw [← h2]
    exact cg h'
  · obtain ⟨u, hu⟩ := hae qe rfl
    have h0 := iv.load j i2 o q v hj hi2 ho hnS hw hop hev
    rw [cg, evL_disj hdj hu, ← cg]; exact h0

theorem count_set : ∀ {l : List Bool} {i : Nat}, l[i]? = some false → (l.set i true).count false + 1 = l.count false
  | [], i, h => by simp at h
  | x :: l, 0, h => by
    simp only [List.getElem?_cons_zero, Option.some.injEq] at h; subst h
    simp
  | x :: l, i + 1, h => by
    have := count_set (l := l) (i := i) (by simpa using h)
    simp only [List.set_cons_succ, List.count_cons]
    omega

theorem count_zero {l : List Bool} (h : l.count false = 0) {i : Nat} (hi : i < l.length) : l[i]? = some true := by
  have : false ∉ l := List.count_eq_zero.1 h
  rw [List.getElem?_eq_getElem hi]
  cases hb : l[i] with
  | true => rfl
  | false => exact absurd (hb ▸ List.getElem_mem hi) this

theorem Inv.done (pl : Plan P nt ops bef c) (ru : Runs P nt ops call c re N st out) (hnt : B.nt = nt) (iv : Inv P nt ops bef c N st B S φ a cs w b) (hS : ∀ k, k < ops.size → S k) : OutR B out .normal a cs w := by
  have hall : ∀ j, j < c.length → j < b := by
    intro j hj
    have h1 : c[j]? = some c[j] := List.getElem?_eq_getElem hj
    exact iv.low j _ h1 (hS _ (pl.lt _ _ h1))
  have hb := iv.ble
  have hN := ru.le
  rcases ru.fin with ⟨h1, rfl⟩ | ⟨h1, _⟩
  · have hbN : b = N := by
      rcases Nat.lt_or_ge b N with h | h
      · exact absurd (hall b (by omega)) (by omega)
      · omega
    subst hbN
    refine ⟨rfl, φ, ⟨iv.rel.gb.1, by rw [hnt]; exact iv.size, fun t v hv => ?_⟩, iv.rel, iv.ext, iv.df, iv.cs, iv.dd⟩
    refine iv.tmp t v b (Nat.le_refl _) (fun j' i' o' hi' ho' hd' => ?_) hv
    have : j' < c.length := by
      rcases Nat.lt_or_ge j' c.length with h | h
      · exact h
      · rw [List.getElem?_eq_none h] at hi'; simp at hi'
    exact ⟨fun _ => hS _ (pl.lt _ _ hi'), fun _ => by omega⟩
  · exact absurd (hall N h1) (by omega)

theorem Runs.effN (pl : Plan P nt ops bef c) (ru : Runs P nt ops call c re N st out) (hN : N < c.length) (hi : c[N]? = some i) (ho : ops[i]? = some o) : isEff (trOper P nt ops o).op = true := by
  rcases ru.fin with ⟨h1, _⟩ | ⟨_, hno, hs⟩
  · omega
  · obtain ⟨g, b, hg, hd, e1, e2, hw, hs⟩ := stepO_inv (hs i o hi ho)
    rcases hs with ⟨_, h⟩ | ⟨_, aop, ht, e3, hs⟩
    · exact absurd h (hno _)
    · rw [e3]
      cases hef : isEff aop with
      | true => rfl
      | false =>
        cases aop <;> simp [isEff] at hef <;> simp only [evOp, evOpC] at hs <;> (obtain ⟨v, hv, hs⟩ := ob_eq hs; simp only [Option.some.injEq] at hs; exact absurd hs.symm (hno _))

noncomputable def outD (dl : List Pos) (o : Out) : Out := match o with | .panic c s => .panic c (bif !(noDf s.df) then ⟨delL dl s.fr, s.h, s.df, s.u⟩ else s) | o => o
theorem outX_true (L : List AOper) (o : Out) : outX true L o = outD (dstL L) o := by cases o <;> rfl
theorem outD_ok {B : Base} {dl : List Pos} {c : Chain} {s : St} {ch : List PanicEntry} {e : Exit} {a : Act} {cs : List Frame} {w : World} {φ : Phi} (he : e = .panic ch) (h1 : ChRel φ ch c) (h2 : Rel B.w0 φ s.h w) (h3 : Ext B.φ B.h B.w φ s.h w) (h4 : DfRel φ a.defers s.df) (h5 : CsR φ B.cs s.u cs) (h6 : B.D = false ↔ s.u = .no) (h7 : s.df ≠ [] → FrRel φ B.nt a.tmps (delL dl s.fr)) :
    OutR B (outD dl (.panic c s)) e a cs w := by
  cases hd : !(noDf s.df) with
  | true => rw [show outD dl (.panic c s) = .panic c ⟨delL dl s.fr, s.h, s.df, s.u⟩ from by unfold outD; simp only [hd, cond_true]]; exact ⟨ch, φ, he, h1, h2, h3, h4, h5, h6, h7⟩
  | false =>
    rw [show outD dl (.panic c s) = .panic c s from by unfold outD; simp only [hd, cond_false]]
    refine ⟨ch, φ, he, h1, h2, h3, h4, h5, h6, fun hne => ?_⟩
    cases hs : s.df with
    | nil => exact absurd hs hne
    | cons x l => rw [hs] at hd; simp [noDf] at hd
theorem outD_normal {B : Base} {dl : List Pos} {out : Out} {a : Act} {cs : List Frame} {w : World} (h : OutR B out .normal a cs w) : OutR B (outD dl out) .normal a cs w := by
  cases out with
  | panic c s => obtain ⟨_, _, h, _⟩ := h; simp at h
  | _ => exact h
theorem Inv.one (hc : CallOk P B.w0 call) (hnt : B.nt = nt) (pl : Plan P nt ops bef c) (ru : Runs P nt ops call c re N st out)
    (hre : ∀ (j i : Nat) (o : Oper), c[j]? = some i → ops[i]? = some o → isEff (trOper P nt ops o).op = true → rechecks (ops.map (trOper P nt ops)) bef i c = some (re j))
    {dl : List Pos} (hdl : ∀ (i : Nat) (o : Oper) (d : Pos), ops[i]? = some o → (trOper P nt ops o).dst = some d → d ∈ dl) (iv : Inv P nt ops bef c N st B S φ a cs w b) (hbe : b < N → ∃ (i : Nat) (o : Oper), c[b]? = some i ∧ ops[i]? = some o ∧ isEff (trOper P nt ops o).op = true)
    (ho : ops[i]? = some o) (hnS : ¬ S i) (hr : ∀ k, (bef i).testBit k = true → S k) {K : Act → World → Prop} (hK : ∀ φ' a' w' b', Inv P nt ops bef c N st B (fun k => S k ∨ k = i) φ' a' cs w' b' → K a' w') :
    wpOp P ops (fun e a w => OutR B (outD dl out) e a cs w) i K a w := by
  have hlt : i < ops.size := by
    rcases Nat.lt_or_ge i ops.size with h' | h'
    · exact h'
    · rw [Array.getElem?_eq_none h'] at ho; simp at ho
  obtain ⟨j, hi⟩ := pl.mem i hlt
  have hjc : j < c.length := by
    rcases Nat.lt_or_ge j c.length with h' | h'
    · exact h'
    · rw [List.getElem?_eq_none h'] at hi; simp at hi
  have hbN := iv.ble
  have hNc := ru.le
  have hjb : j ≤ b := by
    rcases Nat.lt_or_ge b c.length with h | h
    · obtain ⟨ib, ob, h1, h2⟩ := pl.get h
      have hef : isEff (trOper P nt ops ob).op = true := by
        rcases Nat.lt_or_ge b N with h' | h'
        · obtain ⟨ib', ob', g1, g2, g3⟩ := hbe h'
          rw [h1] at g1; simp only [Option.some.injEq] at g1; subst g1
          rw [h2] at g2; simp only [Option.some.injEq] at g2; subst g2
          exact g3
        · have : b = N := by omega
          subst this
          exact ru.effN pl h h1 h2
      exact iv.upto pl hi hr h1 h2 hef
    · omega
  have hjN : j ≤ N := by omega
  obtain ⟨hρ, hcong⟩ := iv.opds pl hi ho hnS hr hjN
  have hreads := iv.reads pl hi ho hnS hr hjN
  have hwant : ∀ {g : Option (Pos × Bool)} {bb : Bool}, guardOf ops o = some g → (trOper P nt ops o).guard = g → wantedA g (st j).fr = some bb → Region.wanted o (yielded ops a.tmps) = bb := by
    intro g bb hg e2 hw
    refine wanted_ok (a := a) hg (fun d want v hgd hv => hreads d v ?_ hv) hw
    unfold AOper.reads; rw [e2, hgd]; simp [guardL]
  unfold wpOp
  simp only [ho]
  cases hef : isEff (trOper P nt ops o).op with
  | false =>
    have hjb' : j < b := by
      rcases Nat.lt_or_ge j b with h | h
      · exact h
      · have : j = b := by omega
        subst this
        rcases Nat.lt_or_ge j N with h' | h'
        · obtain ⟨ib', ob', g1, g2, g3⟩ := hbe h'
          rw [hi] at g1; simp only [Option.some.injEq] at g1; subst g1
          rw [ho] at g2; simp only [Option.some.injEq] at g2; subst g2
          rw [hef] at g3; simp at g3
        · have : j = N := by omega
          subst this
          have := ru.effN pl hjc hi ho
          rw [hef] at this; simp at this
    obtain ⟨g, bb, hg, hd, e1, e2, hw, hs⟩ := stepO_inv (ru.step j i o (by omega) hi ho)
    rw [hwant hg e2 hw]
    rcases hs with ⟨rfl, hs⟩ | ⟨rfl, aop, ht, e3, hs⟩
    · simp only [Bool.false_eq_true, if_false]
      simp only [Out.normal.injEq] at hs
      exact hK φ _ w b (iv.low_step pl ru hi ho hnS hr hjb' (.refl _) iv.rel (Nat.le_refl _) (.tup _ _ .nil) (by rw [hs, e1]) e1 hd fun β h => .inl h)
    · simp only [if_true]
      left
      unfold Oper.wp
      rw [e3] at hef hcong
      cases aop <;> simp [isEff] at hef
      case p q =>
        simp only [evOp, evOpC] at hs
        obtain ⟨v, hv, hs⟩ := ob_eq hs
        simp only [Option.some.injEq, Out.normal.injEq] at hs
        obtain ⟨u, w', h1, h2, h3⟩ := evP_ok (P := P) (w := w) hρ o ht (by rw [evP_congr hcong]; exact hv)
        rw [h1, Oper.upon_value]
        exact hK φ _ w' b (iv.low_step pl ru hi ho hnS hr hjb' (.refl _) (h3.rel iv.rel) (by rw [h3.heap]; exact Nat.le_refl _) h2 (by rw [← hs, e1]) e1 hd fun β h => .inl h)
      case a q =>
        simp only [evOp, evOpC] at hs
        obtain ⟨r, hrr, hs⟩ := ob_eq hs
        simp only [Option.some.injEq, Out.normal.injEq] at hs
        obtain ⟨k, vk⟩ := r
        obtain ⟨p1, p2, p3⟩ := iv.pend j i o k vk q hjb' hi ho hnS (by rw [e2]; exact hw) e3 hrr
        have hal := ru.alloc (by omega) hi ho (by rw [e2]; exact hw) e3 hrr
        obtain ⟨u, w', l, h1, h2, h3, h4, h5⟩ := (evA_ok iv.rel hρ o ht (by rw [evA_congr hcong]; exact hrr)).late iv.rel p1 p3 p2
        rw [h1, Oper.upon_value]
        refine hK _ _ w' b (iv.low_step pl ru hi ho hnS hr hjb' h5 h3 h4 h2 (by rw [← hs, e1]) e1 hd fun β h => ?_)
        by_cases e : β = (st j).h.nx
        · exact .inr ⟨e, hal⟩
        · exact .inl (by simp [Phi.add, e, h])
      case l q =>
        simp only [evOp, evOpC] at hs
        obtain ⟨v, hv, hs⟩ := ob_eq hs
        simp only [Option.some.injEq, Out.normal.injEq] at hs
        have hv' := iv.load j i o q v hjb' hi ho hnS (by rw [e2]; exact hw) e3 hv
        obtain ⟨u, h1, h2⟩ := evL_ok iv.rel hρ o ht (by rw [evL_congr hcong]; exact hv')
        rw [h1, Oper.upon_value]
        exact hK φ _ w b (iv.low_step pl ru hi ho hnS hr hjb' (.refl _) iv.rel (Nat.le_refl _) h2 (by rw [← hs, e1]) e1 hd fun β h => .inl h)
  | true =>
    have hj : j = b := by
      rcases Nat.lt_or_ge j b with h | h
      · exact absurd (iv.effs j i o h hi ho hef) hnS
      · omega
    subst hj
    have hnr := pl.norec i o ho
    rcases Nat.lt_or_ge j N with hjN' | hjN'
    · obtain ⟨g, bb, hg, hd, e1, e2, hw, hs⟩ := stepO_inv (ru.step j i o hjN' hi ho)
      rw [hwant hg e2 hw]
      rcases hs with ⟨rfl, hs⟩ | ⟨rfl, aop, ht, e3, hs⟩
      · simp only [Bool.false_eq_true, if_false]
        simp only [Out.normal.injEq] at hs
        have hh : (st (j + 1)).h = (st j).h := by rw [hs]
        have := iv.eff_step pl ru hi ho hnS hr hjN' (φ' := φ) (w' := w) (ext' := by rw [hh]; exact .refl _ _ _) (by rw [hh]; exact iv.rel) (.tup #[] [] .nil) (ds := a.defers) (by rw [hs]; exact iv.df) (by rw [hs, e1]) e1 hd
          (fun j2 i2 o2 q v g1 g2 g3 g4 g5 g6 g7 => by rw [hh]; exact iv.load j2 i2 o2 q v g1 g2 g3 g4 g5 g6 g7)
        exact hK φ _ w _ this
      · simp only [if_true]
        left
        unfold Oper.wp
        rw [e3] at hcong hnr
        have hef' : isEff aop = true := by rw [← e3]; exact hef
        rcases evOp_eff (o := ⟨o.dst.map posOf, aop, g, re j⟩) hef' hnr hs with ⟨v, h', df', h1, hag, h2⟩ | ⟨c', h', h1, h2⟩
        · simp only [Out.normal.injEq] at h2
          refine eff_upon hc iv.rel hρ iv.df o ht (by rw [evEff_congr hcong]; exact h1) ?_ (by intro ch c h' φ' w' e; simp at e)
          intro v' av h'' df'' φ' w' ds' e g1 g2 g3 g4
          simp only [Res.ok.injEq] at e; obtain ⟨rfl, rfl, rfl⟩ := e
          have hh : (st (j + 1)).h = h' := by rw [h2]
          exact hK φ' _ w' _ (iv.eff_step pl ru hi ho hnS hr hjN' (ext' := by rw [hh]; exact g3) (by rw [hh]; exact g2) g1 (by rw [h2]; exact g4) (by rw [h2, e1]) e1 hd
            (by rw [hh]; exact iv.reload pl ru hi hr (hre j i o hi ho hef) (fun q e => by
              subst e
              obtain ⟨r, hr1, hr2⟩ := ob_eq (show (ob (evE q (st j).fr (st j).h) fun r => some (Res.ok r.1 r.2 (st j).df)) = some (.ok v h' df') from h1)
              simp only [Option.some.injEq, Res.ok.injEq] at hr2
              obtain ⟨_, rfl, _⟩ := hr2
              exact ⟨r.1, hr1⟩) hag))
        · simp at h2
    · have hjN2 : j = N := by omega
      subst hjN2
      rcases ru.fin with ⟨h1, _⟩ | ⟨_, hno, hs⟩
      · omega
      · obtain ⟨g, bb, hg, hd, e1, e2, hw, hs⟩ := stepO_inv (hs i o hi ho)
        rw [hwant hg e2 hw]
        rcases hs with ⟨rfl, hs⟩ | ⟨rfl, aop, ht, e3, hs⟩
        · exact absurd hs (hno _)
        · simp only [if_true]
          left
          unfold Oper.wp
          rw [e3] at hcong hnr
          have hef' : isEff aop = true := by rw [← e3]; exact hef
          rcases evOp_eff (o := ⟨o.dst.map posOf, aop, g, re j⟩) hef' hnr hs with ⟨v, h', df', h1, hag, h2⟩ | ⟨c', h', h1, h2⟩
          · exact absurd h2 (hno _)
          · refine eff_upon hc iv.rel hρ iv.df o ht (by rw [evEff_congr hcong]; exact h1) (by intro v av h' df' φ' w' ds' e; simp at e) ?_
            intro ch c'' h'' φ' w' e g1 g2 g3
            simp only [Res.pan.injEq] at e; obtain ⟨rfl, rfl⟩ := e
            rw [h2]
            refine outD_ok rfl g1 g2 (iv.ext.trans g3) (iv.df.mono g3.le) (iv.cs.mono g3.le) iv.dd fun _ => ⟨(iv.rel.gb.1).trans g3.le, by rw [hnt]; exact iv.size, fun t x hx => ?_⟩
            obtain ⟨hx1, hx2⟩ := delL_get _ _ _ _ hx
            exact (iv.tmp t x j hjN (fun j' i' o' _ ho' hd' => absurd (hdl i' o' _ ho' hd') hx1) hx2).mono g3.le
end
end Go.Proofs.YtblciblkocameaaGreat.Ev

namespace Go.Proofs.YtblciblkocameaaGreat.Ev
open Go
variable [Rho]
section
variable {P : Program} {nt : Nat} {ops : Array Oper} {bef : Nat → Nat} {c : List Nat} {call : CallF} {re : Nat → List Re} {N : Nat} {st : Nat → St} {out : Out}
variable {B : Base} {φ φ' : Phi} {s : St} {a : Act} {cs : List Frame} {w w' : World}

theorem draw_any (hc : CallOk P B.w0 call) (hnt : B.nt = nt) (pl : Plan P nt ops bef c) (ru : Runs P nt ops call c re N st out)
    (hre : ∀ (j i : Nat) (o : Oper), c[j]? = some i → ops[i]? = some o → isEff (trOper P nt ops o).op = true → rechecks (ops.map (trOper P nt ops)) bef i c = some (re j))
    {dl : List Pos} (hdl : ∀ (i : Nat) (o : Oper) (d : Pos), ops[i]? = some o → (trOper P nt ops o).dst = some d → d ∈ dl) : ∀ (fuel : Nat) (listed : Array Bool) (φ : Phi) (a : Act) (w : World) (b : Nat), listed.size = ops.size → listed.toList.count false ≤ fuel →
    Inv P nt ops bef c N st B (fun k => listed.getD k false = true) φ a cs w b → (b < N → ∃ (i : Nat) (o : Oper), c[b]? = some i ∧ ops[i]? = some o ∧ isEff (trOper P nt ops o).op = true) →
    wpAny P .any ops (fun e a w => OutR B (outD dl out) e a cs w) fuel listed a w := by
  have getD_lt : ∀ {l : Array Bool} {k : Nat}, k < l.size → l.getD k false = l.getD k true := by intro l k h; simp [Array.getD, h]
  have allOf : ∀ {listed : Array Bool}, listed.size = ops.size → Region.ready .any ops listed = [] → ∀ k, k < ops.size → listed.getD k false = true := by
    intro listed hsz hr k
    induction k using Nat.strongRecOn with
    | _ k ih =>
      intro hk
      cases hb : listed.getD k false with
      | true => rfl
      | false =>
        have : k ∈ Region.ready .any ops listed := by
          rw [mem_ready]
          refine ⟨by rw [← getD_lt (by omega)]; exact hb, ops[k], by simp [hk], fun e he hbd => ?_⟩
          have := pl.edge k ops[k] e (by simp [hk]) he hbd
          exact ih e.on this (by omega)
        rw [hr] at this; simp at this
  intro fuel
  induction fuel with
  | zero =>
    intro listed φ a w b hsz hcnt iv hbe
    have hall : ∀ k, k < ops.size → listed.getD k false = true := by
      intro k hk
      have := count_zero (Nat.le_zero.1 hcnt) (i := k) (by simpa [hsz] using hk)
      simp at this
      simp [Array.getD_eq_getD_getElem?, this]
    refine ⟨?_, outD_normal (iv.done pl ru hnt hall)⟩
    rw [List.eq_nil_iff_forall_not_mem]
    intro k hk
    obtain ⟨h1, o, h2, _⟩ := mem_ready.1 hk
    have hlt : k < ops.size := by
      rcases Nat.lt_or_ge k ops.size with h' | h'
      · exact h'
      · rw [Array.getElem?_eq_none h'] at h2; simp at h2
    have := hall k hlt
    rw [getD_lt (by omega), h1] at this; simp at this
  | succ fuel ih =>
    intro listed φ a w b hsz hcnt iv hbe
    refine ⟨fun hr => outD_normal (iv.done pl ru hnt (allOf hsz hr)), fun i hi => ?_⟩
    obtain ⟨h1, o, ho, hall⟩ := mem_ready.1 hi
    have hlt : i < ops.size := by
      rcases Nat.lt_or_ge i ops.size with h' | h'
      · exact h'
      · rw [Array.getElem?_eq_none h'] at ho; simp at ho
    have hnS : ¬ (listed.getD i false = true) := by rw [getD_lt (by omega), h1]; simp
    have hr : ∀ k, (bef i).testBit k = true → listed.getD k false = true := by
      intro k hk
      obtain ⟨o', e, g1, g2, g3, g4⟩ := pl.befs i k hk
      rw [ho] at g1; simp only [Option.some.injEq] at g1; subst g1
      have := hall e g2 g3
      rcases g4 with rfl | g4
      · exact this
      · exact iv.closed _ _ this g4
    refine iv.one hc hnt pl ru hre hdl hbe ho hnS hr fun φ' a' w' b' iv' => ?_
    obtain ⟨b'', iv'', hbe''⟩ := iv'.advance pl ru _ b' rfl
    have hS : (fun k => listed.getD k false = true ∨ k = i) = (fun k => (listed.setIfInBounds i true).getD k false = true) := by
      funext k
      by_cases e : k = i
      · subst e
        have : (listed.setIfInBounds k true).getD k false = true := by simp [Array.getD, hsz, hlt]
        simp [this]
      · rw [getD_set_ne false (Ne.symm e)]; simp [e]
    rw [hS] at iv''
    refine ih _ φ' a' w' b'' (by simpa using hsz) ?_ iv'' hbe''
    have hf : listed.toList[i]? = some false := by
      have hl : i < listed.size := by omega
      have hd : listed.getD i false = listed[i] := by simp [Array.getD, hl]
      rw [hd] at hnS
      simp [hl]
      simpa using hnS
    have := count_set hf
    rw [Array.toList_setIfInBounds]; omega

theorem allSome_get {α : Type} : ∀ {l : List (Option α)} {r : List α}, allSome l = some r → l = r.map some
  | [], r, h => by simp [allSome] at h; subst h; rfl
  | none :: l, r, h => by simp [allSome] at h
  | some x :: l, r, h => by
    simp only [allSome] at h
    split at h
    · rename_i r' hr
      simp only [Option.some.injEq] at h; subst h
      rw [allSome_get hr]; rfl
    · simp at h

theorem runs_of : ∀ {L : List AOper} {s : St} {out : Out}, evOps call L s = some out → ∃ (N : Nat) (st : Nat → St), st 0 = s ∧ N ≤ L.length ∧ (∀ (j : Nat) (o : AOper), j < N → L[j]? = some o → stepO call o (st j) = some (.normal (st (j + 1)))) ∧
    ((N = L.length ∧ out = .normal (st N)) ∨ (N < L.length ∧ (∀ s', out ≠ .normal s') ∧ ∀ o, L[N]? = some o → stepO call o (st N) = some out))
  | [], s, out, h => by
    rw [evOps_nil, Option.some.injEq] at h; subst h
    exact ⟨0, fun _ => s, rfl, Nat.le_refl _, fun j o h => absurd h (by omega), .inl ⟨rfl, rfl⟩⟩
  | o :: L, s, out, h => by
    rw [evOps_cons] at h
    obtain ⟨r, hr, h⟩ := ob_eq h
    have stop : (∀ s', r ≠ .normal s') → r = out → ∃ (N : Nat) (st : Nat → St), st 0 = s ∧ N ≤ (o :: L).length ∧ (∀ (j : Nat) (o' : AOper), j < N → (o :: L)[j]? = some o' → stepO call o' (st j) = some (.normal (st (j + 1)))) ∧
        ((N = (o :: L).length ∧ out = .normal (st N)) ∨ (N < (o :: L).length ∧ (∀ s', out ≠ .normal s') ∧ ∀ o', (o :: L)[N]? = some o' → stepO call o' (st N) = some out)) := by
      intro hno he
      subst he
      refine ⟨0, fun _ => s, rfl, by simp, fun j o' hj => absurd hj (by omega), .inr ⟨by simp, hno, fun o' ho' => ?_⟩⟩
      simp only [List.getElem?_cons_zero, Option.some.injEq] at ho'; subst ho'; exact hr
    cases r with
    | normal s1 =>
      obtain ⟨N, st, h1, h2, h3, h4⟩ := runs_of h
      refine ⟨N + 1, fun j => match j with | 0 => s | j + 1 => st j, rfl, by simp; omega, fun j o' hj ho' => ?_, ?_⟩
      · cases j with
        | zero =>
          simp only [List.getElem?_cons_zero, Option.some.injEq] at ho'; subst ho'
          simp only; rw [h1]; exact hr
        | succ j => exact h3 j o' (by omega) (by simpa using ho')
      · rcases h4 with ⟨g1, g2⟩ | ⟨g1, g2, g3⟩
        · exact .inl ⟨by simp [g1], g2⟩
        · exact .inr ⟨by simpa using g1, g2, fun o' ho' => g3 o' (by simpa using ho')⟩
    | exit id s1 => exact stop (by simp) (by simpa using h)
    | ret s1 => exact stop (by simp) (by simpa using h)
    | panic ch s1 => exact stop (by simp) (by simpa using h)

theorem dstL_mem {L : List AOper} {o : AOper} {d : Pos} (h : o ∈ L) (hd : o.dst = some d) : d ∈ dstL L := by
  induction L with
  | nil => simp at h
  | cons x L ih =>
    show d ∈ (match x.dst with | some p => p :: dstL L | none => dstL L)
    rcases List.mem_cons.1 h with rfl | h
    · rw [hd]; simp
    · have := ih h
      split <;> simp [this]
theorem draw_wp (hc : CallOk P B.w0 call) (hnt : B.nt = nt) {L : List AOper} (hL : trDraw P nt ops = some L) (sr : SR B φ s a cs w) (he : evOps call L s = some out)
    : wpAny P .any ops (fun e a w => OutR B (outX true L out) e a cs w) ops.size (Array.replicate ops.size false) a { w with drawn := w.drawn + 1 } := by
  unfold trDraw at hL
  simp only at hL
  split at hL
  case isFalse => simp at hL
  rename_i hok
  have pl := plan_of hok
  generalize hcdef : asap ops.size _ _ ops.size 0 [] = c at hL hok pl
  have hLm := allSome_get hL
  have mp : ∀ {i : Nat} {o : Oper}, ops[i]? = some o → (ops.map (trOper P nt ops))[i]? = some (trOper P nt ops o) := by intro i o h; simp [h]
  have hlen : L.length = c.length := by
    have := congrArg List.length hLm
    simpa using this.symm
  obtain ⟨N, st, h0, hN, hstep, hfin⟩ := runs_of he
  let re : Nat → List Re := fun j => ((L[j]?).map (·.re)).getD []
  have hget : ∀ (j i : Nat) (o : Oper), c[j]? = some i → ops[i]? = some o → L[j]? = some { trOper P nt ops o with re := re j } ∧ (isEff (trOper P nt ops o).op = true → rechecks (ops.map (trOper P nt ops)) (fun i => (Region.before ops).getD i 0) i c = some (re j)) := by
    intro j i o hi ho
    have hj : j < L.length := by
      rw [hlen]
      rcases Nat.lt_or_ge j c.length with h' | h'
      · exact h'
      · rw [List.getElem?_eq_none h'] at hi; simp at hi
    have h1 := congrArg (fun l => l[j]?) hLm
    simp only [List.getElem?_map, hi, Option.map_some, mp ho] at h1
    have hLj : L[j]? = some L[j] := List.getElem?_eq_getElem hj
    rw [hLj] at h1 ⊢
    have hrej : re j = L[j].re := by simp only [re, hLj, Option.map_some, Option.getD_some]
    simp only [Option.map_some, Option.some.injEq] at h1
    split at h1
    · obtain ⟨r, hr, h1⟩ := Option.map_eq_some_iff.1 h1
      rw [← h1] at hrej ⊢
      simp only at hrej
      exact ⟨by rw [hrej], fun _ => by rw [hr, hrej]⟩
    · rename_i hne
      simp only [Option.some.injEq] at h1
      rw [← h1] at hrej ⊢
      refine ⟨by rw [hrej], fun h => absurd h hne⟩
  have ru : Runs P nt ops call c re N st out := by
    refine ⟨by omega, fun j i o hj hi ho => hstep j _ hj (hget j i o hi ho).1, ?_⟩
    rcases hfin with ⟨h1, h2⟩ | ⟨h1, h2, h3⟩
    · exact .inl ⟨by omega, h2⟩
    · exact .inr ⟨by omega, h2, fun i o hi ho => h3 _ (hget N i o hi ho).1⟩
  have sd := Same.drew w
  have iv : Inv P nt ops (fun i => (Region.before ops).getD i 0) c N st B (fun k => (Array.replicate ops.size false).getD k false = true) φ a cs { w with drawn := w.drawn + 1 } 0 := by
    have hF : ∀ k, ¬ ((Array.replicate ops.size false).getD k false = true) := by
      intro k
      simp [Array.getD_eq_getD_getElem?, Array.getElem?_replicate]
      split <;> simp
    refine ⟨Nat.zero_le _, fun i k h => absurd h (hF i), fun j i _ h => absurd h (hF i), fun j i o h => absurd h (by omega), by rw [h0]; exact sd.rel sr.rel, by rw [h0]; exact sr.ext.trans sd.ext, by rw [h0]; exact sr.df, by rw [h0]; exact sr.cs, by rw [h0]; exact sr.dd, by rw [← hnt]; exact sr.fr.size, by rw [h0]; exact sr.ext.nx, ?_, ?_, fun j i o k vk q h => absurd h (by omega), fun j i o q v h => absurd h (by omega)⟩
    · intro j1 j2 g1 g2
      have e1 : j1 = 0 := by omega
      have e2 : j2 = 0 := by omega
      rw [e1, e2]; exact Nat.le_refl _
    · intro t v j hj hcond hv
      rw [ru.keep pl j (Nat.zero_le _) hj (fun j' i o g1 g2 hi ho hd => absurd ((hcond j' i o hi ho hd).1 g2) (hF i)), h0] at hv
      exact sr.fr.val t v hv
  obtain ⟨b', iv', hbe'⟩ := iv.advance pl ru _ 0 rfl
  have hdl : ∀ (i : Nat) (o : Oper) (d : Pos), ops[i]? = some o → (trOper P nt ops o).dst = some d → d ∈ dstL L := by
    intro i o d ho hd
    have hlt : i < ops.size := by
      rcases Nat.lt_or_ge i ops.size with h' | h'
      · exact h'
      · rw [Array.getElem?_eq_none h'] at ho; simp at ho
    obtain ⟨j, hj⟩ := pl.mem i hlt
    have hm := List.mem_of_getElem? (hget j i o hj ho).1
    exact dstL_mem hm hd
  rw [outX_true]
  refine draw_any hc hnt pl ru (fun j i o hi ho => (hget j i o hi ho).2) hdl _ _ φ a _ b' (by simp) ?_ iv' hbe'
  simp
theorem draw_region (hc : CallOk P B.w0 call) (hnt : B.nt = nt) (hP : P.follows .mixedOrders = true) {L : List AOper} (hL : trDraw P nt ops = some L) (sr : SR B φ s a cs w) (he : evOps call L s = some out)
    (id : Nat) : (Code.region id ops true).wp P (fun e a w => OutR B (outX true L out) e a cs w) a w :=
  wp_region_any hP (draw_wp hc hnt hL sr he)
end
end Go.Proofs.YtblciblkocameaaGreat.Ev

namespace Go.Proofs.YtblciblkocameaaGreat.Ev
open Go
variable [Rho]
section
variable {P : Program} {nt : Nat} {ops : Array Oper} {call : CallF} {out : Out}
variable {B : Base} {φ φ' : Phi} {s : St} {a : Act} {cs : List Frame} {w w' : World}

theorem drawX_region (hc : CallOk P B.w0 call) (hnt : B.nt = nt) (hP : P.follows .mixedOrders = true) {L : List AOper} (hL : trDrawX P nt ops = some L) (sr : SR B φ s a cs w) (he : evOps call L s = some out)
    (id : Nat) : (Code.region id ops true).wp P (fun e a w => OutR B (outX true L out) e a cs w) a w := by
  exact draw_region hc hnt hP hL sr he id
end
end Go.Proofs.YtblciblkocameaaGreat.Ev

namespace Go.Proofs.YtblciblkocameaaGreat.Ev
open Go
open Go.ChangeMaps (setBlock)
variable [Rho]

def updL (v : AV) (T : List (Pos × Nat)) (c : Pos) (vs : List AV) : List AV := vs.mapIdx fun i x => if (c, i) ∈ T then v else x
def updB (v : AV) (T : List (Pos × Nat)) (c : Pos) : Blk → Blk
  | .cells wr vs => .cells wr (updL v T c vs)
  | k => k
structure Part (v : AV) (h0 : HP) (T : List (Pos × Nat)) (h : HP) : Prop where
  nx : h.nx = h0.nx
  get : ∀ c, h.get c = (h0.get c).map (updB v T c)

theorem updL_nil (v : AV) (c : Pos) (vs : List AV) : updL v [] c vs = vs := by
  unfold updL
  apply List.ext_getElem?
  intro i; simp
theorem Part.nil (v : AV) (h0 : HP) : Part v h0 [] h0 := by
  refine ⟨rfl, fun c => ?_⟩
  cases h0.get c with
  | none => rfl
  | some k => cases k <;> simp [updB, updL_nil]
theorem putAt_one (v : AV) : ∀ (o : Nat) (cs : List AV), o < cs.length → putAt [v] o cs = some (cs.set o v)
  | _, [], h => by simp at h
  | 0, a :: cs, _ => rfl
  | o + 1, a :: cs, h => by
    have : putAt [v] (o + 1) (a :: cs) = (match putAt [v] o cs with | none => none | some r => some (a :: r)) := by
      show Option.casesOn (motive := fun _ => Option (List AV)) (putAt [v] o cs) none (fun r => some (a :: r)) = _
      cases putAt [v] o cs <;> rfl
    rw [this, putAt_one v o cs (by simpa using h)]; rfl
theorem updL_length (v : AV) (T : List (Pos × Nat)) (c : Pos) (vs : List AV) : (updL v T c vs).length = vs.length := by simp [updL]
theorem updL_set (v : AV) (T : List (Pos × Nat)) (c : Pos) (i : Nat) (vs : List AV) : (updL v T c vs).set i v = updL v ((c, i) :: T) c vs := by
  apply List.ext_getElem?
  intro j
  simp only [updL, List.getElem?_set, List.length_mapIdx, List.getElem?_mapIdx, List.mem_cons, Prod.mk.injEq, true_and]
  by_cases e : i = j
  · subst e
    by_cases hl : i < vs.length
    · simp [hl]
    · rw [if_pos rfl, if_neg hl, List.getElem?_eq_none (by omega)]; rfl
  · rw [if_neg e]
    have e' : ¬ j = i := fun x => e x.symm
    simp [e']
theorem updL_other (v : AV) (T : List (Pos × Nat)) {c d : Pos} (h : d ≠ c) (i : Nat) (vs : List AV) : updL v ((c, i) :: T) d vs = updL v T d vs := by
  unfold updL
  congr 1
  funext j x
  simp [h]
theorem Part.store {v : AV} {h0 h : HP} {T : List (Pos × Nat)} (p : Part v h0 T h) (hv : v.one = true) {c : Pos} {i : Nat} {cs : List AV} (hc : h0.get c = some (.cells true cs)) (hi : i < cs.length) :
    ∃ h', storeAt c i [v] h = some h' ∧ Part v h0 ((c, i) :: T) h' := by
  have hg : h.get c = some (.cells true (updL v T c cs)) := by rw [p.get, hc]; rfl
  refine ⟨h.put c (some (.cells true ((updL v T c cs).set i v))), ?_, by rw [HP.nx_put]; exact p.nx, fun d => ?_⟩
  · unfold storeAt
    rw [hg, ob_some]
    have : allOne [v] = true := by show (Bool.rec false true v.one : Bool) = true; rw [hv]
    simp only [this, cond_true]
    rw [putAt_one v i _ (by rw [updL_length]; exact hi)]
    rfl
  · rw [HP.get_put]
    by_cases e : d = c
    · subst e
      rw [if_pos rfl, hc]
      simp [updB, updL_set]
    · rw [if_neg e, p.get]
      cases h0.get d with
      | none => rfl
      | some k => cases k <;> simp [updB, updL_other v T e]
theorem Part.same {v : AV} {h0 h h' : HP} {T T' : List (Pos × Nat)} (p : Part v h0 T h) (p' : Part v h0 T' h') (hT : ∀ x, x ∈ T ↔ x ∈ T') : h.nx = h'.nx ∧ ∀ b, h.get b = h'.get b := by
  refine ⟨p.nx.trans p'.nx.symm, fun b => ?_⟩
  rw [p.get, p'.get]
  cases h0.get b with
  | none => rfl
  | some k =>
    cases k <;> simp only [Option.map_some, updB]
    congr 2
    unfold updL
    congr 1
    funext i x
    by_cases e : (b, i) ∈ T
    · rw [if_pos e, if_pos ((hT _).1 e)]
    · rw [if_neg e, if_neg (fun h => e ((hT _).2 h))]

def targets (off : Nat) : List (AV × AV) → List (Pos × Nat)
  | [] => []
  | e :: es => match e.2 with | .ptr c o => (c, Nat.add o off) :: targets off es | _ => targets off es
theorem storeAll_cons (off : Nat) (v : AV) (e : AV × AV) (es : List (AV × AV)) (h : HP) : storeAll off v (e :: es) h = (match e.2 with | .ptr c o => ob (storeAt c (Nat.add o off) [v] h) (storeAll off v es) | _ => none) := rfl
theorem storeAt_inv {v : AV} {c : Pos} {i : Nat} {h h' : HP} (hs : storeAt c i [v] h = some h') : ∃ cs, h.get c = some (.cells true cs) ∧ i < cs.length := by
  unfold storeAt at hs
  obtain ⟨k, hk, hs⟩ := ob_eq hs
  split at hs
  · rename_i cs
    obtain ⟨_, hs⟩ := bif_eq hs
    obtain ⟨q, hq, _⟩ := ob_eq hs
    obtain ⟨h3, _⟩ := putAt_some hq
    exact ⟨cs, hk, by simp at h3; omega⟩
  · simp at hs
theorem storeAll_inv {v : AV} (hv : v.one = true) {h0 : HP} {off : Nat} : ∀ (es : List (AV × AV)) (T : List (Pos × Nat)) (h hT : HP), Part v h0 T h → storeAll off v es h = some hT →
    (∀ e ∈ es, ∃ c o cs, e.2 = .ptr c o ∧ h0.get c = some (.cells true cs) ∧ o + off < cs.length) ∧ ∃ T', Part v h0 T' hT ∧ ∀ x, x ∈ T' ↔ x ∈ T ∨ x ∈ targets off es
  | [], T, h, hT, p, hs => by
    have hs : some h = some hT := hs
    simp only [Option.some.injEq] at hs; subst hs
    exact ⟨by simp, T, p, by simp [targets]⟩
  | e :: es, T, h, hT, p, hs => by
    rw [storeAll_cons] at hs
    obtain ⟨k, a⟩ := e
    simp only at hs
    split at hs
    · rename_i c o
      obtain ⟨h1, hst, hs⟩ := ob_eq hs
      obtain ⟨cs', hc', hi⟩ := storeAt_inv hst
      have hc0 : ∃ cs, h0.get c = some (.cells true cs) ∧ Nat.add o off < cs.length := by
        rw [p.get] at hc'
        cases hq : h0.get c with
        | none => rw [hq] at hc'; simp at hc'
        | some q =>
          rw [hq] at hc'
          cases q <;> simp [updB] at hc'
          rename_i wr vs
          obtain ⟨rfl, rfl⟩ := hc'
          exact ⟨vs, rfl, by simpa [updL_length] using hi⟩
      obtain ⟨cs, hc, hlt⟩ := hc0
      obtain ⟨h1', hst', p'⟩ := p.store hv hc hlt
      rw [hst] at hst'
      simp only [Option.some.injEq] at hst'; subst hst'
      obtain ⟨g1, T', g2, g3⟩ := storeAll_inv hv es _ h1 hT p' hs
      refine ⟨fun x hx => ?_, T', g2, fun x => ?_⟩
      · rcases List.mem_cons.1 hx with rfl | hx
        · exact ⟨c, o, cs, rfl, hc, hlt⟩
        · exact g1 x hx
      · rw [g3]; simp only [List.mem_cons, targets]; constructor
        · rintro ((h | h) | h)
          · exact .inr (.inl h)
          · exact .inl h
          · exact .inr (.inr h)
        · rintro (h | h | h)
          · exact .inl (.inr h)
          · exact .inl (.inl h)
          · exact .inr h
    · simp at hs
theorem mem_targets {off : Nat} : ∀ {es : List (AV × AV)} {e : AV × AV} {c : Pos} {o : Nat}, e ∈ es → e.2 = .ptr c o → (c, o + off) ∈ targets off es
  | x :: es, e, c, o, he, h2 => by
    rcases List.mem_cons.1 he with rfl | he
    · obtain ⟨k, a⟩ := e; simp only at h2; subst h2; simp [targets]
    · have := mem_targets (off := off) he h2
      obtain ⟨k, a⟩ := x
      cases a <;> simp [targets, this]
theorem targets_mem {off : Nat} : ∀ {es : List (AV × AV)} {x : Pos × Nat}, x ∈ targets off es → ∃ e ∈ es, ∃ c o, e.2 = .ptr c o ∧ x = (c, o + off)
  | y :: es, x, hx => by
    obtain ⟨k, a⟩ := y
    cases a <;> simp only [targets] at hx <;> try (obtain ⟨e, he, h⟩ := targets_mem hx; exact ⟨e, List.mem_cons_of_mem _ he, h⟩)
    rename_i c o
    rcases List.mem_cons.1 hx with rfl | hx
    · exact ⟨_, List.mem_cons_self .., c, o, rfl, rfl⟩
    · obtain ⟨e, he, h⟩ := targets_mem hx; exact ⟨e, List.mem_cons_of_mem _ he, h⟩

theorem RVP.mem {φ : Phi} {es : List MapEntry} {as : List (AV × AV)} (h : RVP φ es as) {e : MapEntry} (he : e ∈ es) : ∃ a ∈ as, RV φ e.val a.2 := by
  induction h with
  | nil => simp at he
  | cons x k v es as hk hv hs ih =>
    rcases List.mem_cons.1 he with rfl | he
    · exact ⟨(k, v), List.mem_cons_self .., hv⟩
    · obtain ⟨a, h1, h2⟩ := ih he; exact ⟨a, List.mem_cons_of_mem _ h1, h2⟩
theorem RVP.memr {φ : Phi} {es : List MapEntry} {as : List (AV × AV)} (h : RVP φ es as) {a : AV × AV} (ha : a ∈ as) : ∃ e ∈ es, RV φ e.val a.2 := by
  induction h with
  | nil => simp at ha
  | cons x k v es as hk hv hs ih =>
    rcases List.mem_cons.1 ha with rfl | ha
    · exact ⟨x, List.mem_cons_self .., hv⟩
    · obtain ⟨e, h1, h2⟩ := ih ha; exact ⟨e, List.mem_cons_of_mem _ h1, h2⟩

section
variable {P : Program} {w0 : World} {φ : Phi} {h : HP} {w : World}

theorem Rel.aside (r : Rel w0 φ h w) {w' : World} {b : Nat} {o : Obj} (t : Turned w w' b o) (hb : w0.heap.size ≤ b) (ho : ∀ c el fz, o ≠ .cells c el fz) (hno : ∀ c l k, φ c = some l → h.get c = some k → l.blk ≠ b) : Rel w0 φ h w' := by
  refine ⟨t.os.trans r.os, t.tape.trans r.tape, t.output.trans r.output, by rw [t.size]; exact r.size, fun i hi => ?_, r.gb, r.wf, by rw [t.size]; exact r.dom, fun c l k h1 h2 => (r.ok c l k h1 h2).step (.refl φ) (by rw [t.heap, if_neg (hno c l k h1 h2)]), r.inj⟩
  rw [t.heap, if_neg (by omega)]; exact r.old i hi
theorem turned_set {w1 : World} (hw : w1 = w ∨ w1 = w.drew) {b : Nat} {o : Obj} (hb : b < w.heap.size) : Turned w (setBlock w1 b o) b o := by
  have key : ∀ i, (w.heap.setIfInBounds b o)[i]? = if i = b then some o else w.heap[i]? := by
    intro i
    rw [Array.getElem?_setIfInBounds]
    by_cases e : i = b
    · subst e; simp [hb]
    · rw [if_neg (fun h => e h.symm), if_neg e]
  have hh : (setBlock w1 b o).heap = w.heap.setIfInBounds b o := by rcases hw with rfl | rfl <;> rfl
  refine ⟨fun i => by rw [hh]; exact key i, by rw [hh]; simp, ?_, ?_, ?_⟩ <;> (rcases hw with rfl | rfl <;> rfl)

theorem store_turned (r : Rel w0 φ h w) {t : TypeId} {a x : Value} {b : Pos} {o : Nat} {xa : AV} {h' : HP} (hs : szOf P t = some 1) (ha : RV φ a (.ptr b o)) (hx : RV φ x xa) (hone : xa.one = true) (hst : storeAt b o [xa] h = some h') :
    ∃ w' l ob', φ b = some l ∧ (Instr.storeAt t a x).run P w = .ok () w' ∧ Turned w w' l.blk ob' ∧ Rel w0 φ h' w' ∧ Ext φ h w φ h' w' := by
  have hc : xa.cells = [xa] := by cases xa <;> first | rfl | exact Bool.noConfusion (show false = true from hone)
  have hcv := hx.cells
  rw [hc] at hcv
  have hl : x.cells.size = 1 := by simpa using hcv.length
  cases ha with
  | ptr _ _ l hl' =>
    have hs0 := hst
    unfold storeAt at hst
    obtain ⟨k, hk, hst⟩ := ob_eq hst
    split at hst
    · rename_i cs
      obtain ⟨hal, hst⟩ := bif_eq hst
      obtain ⟨q, hq, hst⟩ := ob_eq hst
      simp only [Option.some.injEq] at hst; subst hst
      obtain ⟨h1, h2, c, el, hcc, hcsz, _⟩ := r.ok b l _ hl' hk
      obtain ⟨h3, rfl⟩ := putAt_some hq
      have hlen := hcv.length
      obtain ⟨w', c', g1, g2, g3⟩ := run_storeCells (P := P) x.cells.toList (l.off + o) 0 c w hcc (by omega) (allOne_ok hcv hal)
      obtain ⟨w'', k1, k2, k3⟩ := storeAt_ok (P := P) r hl' hs0 hcv
      have e : w'' = w' := by
        rw [g1] at k1; simp only [Result.ok.injEq, true_and] at k1; exact k1.symm
      subst e
      exact ⟨w'', l, _, hl', by simp [Instr.storeAt, Instr.sureAddr, storeVar, run_size hs, hl, k1], g2, k2, k3⟩
    · simp at hst
end
end Go.Proofs.YtblciblkocameaaGreat.Ev

namespace Go.Proofs.YtblciblkocameaaGreat.Ev
open Go
open Go.ChangeMaps (setBlock)
variable [Rho]

theorem plainO_inv {o : Oper} {d : Tmp} (h : plainO o = some d) : o.guard = none ∧ o.dst = some d := by
  unfold plainO at h
  split at h
  · exact ⟨‹_›, h⟩
  · simp at h
theorem rsh1_inv {l : List Oper} {x : Tmp × Tmp × Tmp} (h : rsh1 l = some x) : ∃ o1 o2, l = [o1, o2] ∧ o1.guard = none ∧ o1.dst = some x.2.1 ∧ o1.op = .next (.tmp x.1) false ∧ o2.guard = none ∧ o2.dst = some x.2.2 ∧ o2.op = .extract (.tmp x.2.1) 0 := by
  unfold rsh1 at h
  split at h
  · rename_i o1 o2
    split at h
    · rename_i d1 d2 it y h1 h2 h3 h4
      split at h
      · rename_i e
        simp only [Option.some.injEq] at h; subst h e
        exact ⟨o1, o2, rfl, (plainO_inv h1).1, (plainO_inv h1).2, h3, (plainO_inv h2).1, (plainO_inv h2).2, h4⟩
      · simp at h
    · simp at h
  · simp at h
theorem rsh2_inv {l : List Oper} {x : Tmp × Tmp × Tmp × Tmp} (h : rsh2 l = some x) : ∃ o1 o2 o3, l = [o1, o2, o3] ∧ o1.guard = none ∧ o1.dst = some x.2.1 ∧ o1.op = .entry (.tmp x.1) ∧ o2.guard = none ∧ o2.dst = some x.2.2.1 ∧ o2.op = .extract (.tmp x.2.1) 1 ∧
    o3.guard = none ∧ o3.dst = some x.2.2.2 ∧ o3.op = .assign (.tmp x.2.2.1) := by
  unfold rsh2 at h
  split at h
  · rename_i o1 o2 o3
    split at h
    · rename_i d3 d4 d5 it y z h1 h2 h3 h4 h5 h6
      split at h
      · rename_i e
        obtain ⟨e1, e2⟩ := e
        simp only [Option.some.injEq] at h; subst h e1 e2
        exact ⟨o1, o2, o3, rfl, (plainO_inv h1).1, (plainO_inv h1).2, h4, (plainO_inv h2).1, (plainO_inv h2).2, h5, (plainO_inv h3).1, (plainO_inv h3).2, h6⟩
      · simp at h
    · simp at h
  · simp at h
theorem rsh3_inv {l : List Oper} {x : Tmp × Tmp × Tmp × Tmp × TypeId × Nat × TypeId × Bool} (h : rsh3 l = some x) : ∃ o1 o2 o3 o4, l = [o1, o2, o3, o4] ∧ o1.guard = none ∧ o1.dst = some x.2.1 ∧ o1.op = .move (.tmp x.1) ∧ o2.guard = none ∧ o2.dst = some x.2.2.1 ∧ o2.op = .nilCheck (.tmp x.2.1) ∧
    o3.guard = none ∧ o3.dst = some x.2.2.2.1 ∧ o3.op = .fieldAddr x.2.2.2.2.1 (.tmp x.2.2.1) x.2.2.2.2.2.1 ∧ o4.guard = none ∧ o4.dst = none ∧ o4.op = .store x.2.2.2.2.2.2.1 (.tmp x.2.2.2.1) (.const (.bool x.2.2.2.2.2.2.2)) := by
  unfold rsh3 at h
  split at h
  · rename_i o1 o2 o3 o4
    split at h
    · rename_i d6 d7 d8 y z t q f st p b h1 h2 h3 h4 h4' h5 h6 h7 h8
      split at h
      · rename_i e
        obtain ⟨e1, e2, e3⟩ := e
        simp only [Option.some.injEq] at h; subst h e1 e2 e3
        exact ⟨o1, o2, o3, o4, rfl, (plainO_inv h1).1, (plainO_inv h1).2, h5, (plainO_inv h2).1, (plainO_inv h2).2, h6, (plainO_inv h3).1, (plainO_inv h3).2, h7, h4, h4', h8⟩
      · simp at h
    · simp at h
  · simp at h
structure RLoop (nt : Nat) (id : Nat) (c : Code) (x : RSh) : Prop where
  sh : ∃ i1 i2 i3 i4 o1 o2 o3 o4 o5 o6 o7 o8 o9, c = .loop (.seq (.region i1 #[o1, o2] false) (.seq (.cond (.tmp x.d2) .skip (.exit id)) (.block i3 (.seq (.region i2 #[o3, o4, o5] false) (.region i4 #[o6, o7, o8, o9] false))))) ∧
    (o1.guard = none ∧ o1.dst = some x.d1 ∧ o1.op = .next (.tmp x.it) false) ∧ (o2.guard = none ∧ o2.dst = some x.d2 ∧ o2.op = .extract (.tmp x.d1) 0) ∧
    (o3.guard = none ∧ o3.dst = some x.d3 ∧ o3.op = .entry (.tmp x.it)) ∧ (o4.guard = none ∧ o4.dst = some x.d4 ∧ o4.op = .extract (.tmp x.d3) 1) ∧ (o5.guard = none ∧ o5.dst = some x.d5 ∧ o5.op = .assign (.tmp x.d4)) ∧
    (o6.guard = none ∧ o6.dst = some x.d6 ∧ o6.op = .move (.tmp x.d5)) ∧ (o7.guard = none ∧ o7.dst = some x.d7 ∧ o7.op = .nilCheck (.tmp x.d6)) ∧ (o8.guard = none ∧ o8.dst = some x.d8 ∧ o8.op = .fieldAddr x.ty (.tmp x.d7) x.fi) ∧
    (o9.guard = none ∧ o9.dst = none ∧ o9.op = .store x.st (.tmp x.d8) (.const (.bool x.b)))
  lt : x.d1 < nt ∧ x.d2 < nt ∧ x.d3 < nt ∧ x.d4 < nt ∧ x.d5 < nt ∧ x.d6 < nt ∧ x.d7 < nt ∧ x.d8 < nt
  nd : [x.it, x.d1, x.d2, x.d3, x.d4, x.d5, x.d6, x.d7, x.d8].Nodup
theorem rsh_inv {nt id : Nat} {c : Code} {x : RSh} (h : rsh nt id c = some x) : RLoop nt id c x := by
  unfold rsh at h
  split at h
  · rename_i i1 ops1 cc id' i3 i2 ops2 i4 ops3
    split at h
    · rename_i it d1 d2 it' d3 d4 d5 y d6 d7 d8 t f st b h1 h2 h3
      split at h
      · rename_i e
        obtain ⟨e1, e2, e3, e4, l1, l2, l3, l4, l5, l6, l7, l8, nd⟩ := e
        simp only [Option.some.injEq] at h; subst h e1 e2 e3 e4
        obtain ⟨o1, o2, q1, a1, a2, a3, a4, a5, a6⟩ := rsh1_inv h1
        obtain ⟨o3, o4, o5, q2, b1, b2, b3, b4, b5, b6, b7, b8, b9⟩ := rsh2_inv h2
        obtain ⟨o6, o7, o8, o9, q3, c1, c2, c3, c4, c5, c6, c7, c8, c9, c10, c11, c12⟩ := rsh3_inv h3
        have r1 : ops1 = #[o1, o2] := by rw [← Array.toArray_toList (xs := ops1), q1]
        have r2 : ops2 = #[o3, o4, o5] := by rw [← Array.toArray_toList (xs := ops2), q2]
        have r3 : ops3 = #[o6, o7, o8, o9] := by rw [← Array.toArray_toList (xs := ops3), q3]
        subst r1 r2 r3
        exact ⟨⟨i1, i2, i3, i4, o1, o2, o3, o4, o5, o6, o7, o8, o9, rfl, ⟨a1, a2, a3⟩, ⟨a4, a5, a6⟩, ⟨b1, b2, b3⟩, ⟨b4, b5, b6⟩, ⟨b7, b8, b9⟩, ⟨c1, c2, c3⟩, ⟨c4, c5, c6⟩, ⟨c7, c8, c9⟩, ⟨c10, c11, c12⟩⟩, ⟨l1, l2, l3, l4, l5, l6, l7, l8⟩, nd⟩
      · simp at h
    · simp at h
  · simp at h

theorem getD_put_ne {a : Act} {d t : Nat} {v : Value} (h : t ≠ d) : (a.put (some d) v).tmps.getD t undef = a.tmps.getD t undef := by
  show (a.tmps.setIfInBounds d v).getD t undef = _
  simp only [Array.getD_eq_getD_getElem?, Array.getElem?_setIfInBounds]
  rw [if_neg (fun e => h e.symm)]
theorem getD_put_same {a : Act} {d : Nat} {v : Value} (h : d < a.tmps.size) : (a.put (some d) v).tmps.getD d undef = v := by
  show (a.tmps.setIfInBounds d v).getD d undef = _
  simp [Array.getD_eq_getD_getElem?, Array.getElem?_setIfInBounds, h]
theorem FrRel.side {φ : Phi} {nt : Nat} {a : Act} {fr : T AV} (h : FrRel φ nt a.tmps fr) {d : Nat} (hd : T.get (posOf d) fr = none) (v : Value) : FrRel φ nt (a.put (some d) v).tmps fr := by
  refine ⟨h.gl, by show nt ≤ (a.tmps.setIfInBounds d v).size; simpa using h.size, fun t x ht => ?_⟩
  have : t ≠ d := by intro e; subst e; rw [hd] at ht; simp at ht
  rw [getD_put_ne this]; exact h.val t x ht
theorem delL_none {l : List Pos} {fr : T AV} {p : Pos} (h : p ∈ l) : T.get p (delL l fr) = none := by
  cases hg : T.get p (delL l fr) with
  | none => rfl
  | some v => exact absurd h (delL_get p fr v l hg).1
end Go.Proofs.YtblciblkocameaaGreat.Ev

namespace Go.Proofs.YtblciblkocameaaGreat.Ev
open Go
open Go.ChangeMaps (setBlock)
variable [Rho]

section
variable {P : Program} {B : Base}

theorem wpOps_value {ops : Array Oper} {i : Nat} {o : Oper} {rest : List Nat} {Q : Exit → Act → World → Prop} {a : Act} {w w' : World} {v : Value} (hi : ops[i]? = some o) (hg : o.guard = none) (hr : (execOp a.eval o).run P w = .ok (.value v) w')
    (hn : wpOps P ops Q rest (a.put o.dst v) w') : wpOps P ops Q (i :: rest) a w := by
  simp only [wpOps, hi]
  rw [if_pos (by simp [Region.wanted, hg])]
  left
  show o.upon P a _ Q _
  rw [hr]; exact hn
theorem exec_next {ρ : Operand → Value} {o : Oper} {it : Tmp} {w w' : World} {v : Value} (ho : o.op = .next (.tmp it) false) (h : (Instr.next (ρ (.tmp it)) false o.type).run P w = .ok v w') : (execOp ρ o).run P w = .ok (.value v) w' := by
  obtain ⟨dst, op, ty, pos, af, g⟩ := o
  simp only at ho h; subst ho
  simp [execOp, h]
theorem exec_extract {ρ : Operand → Value} {o : Oper} {t : Tmp} {i : Nat} {w : World} {vs : Array Value} {v : Value} (ho : o.op = .extract (.tmp t) i) (ht : ρ (.tmp t) = .tuple vs) (h : vs[i]? = some v) : (execOp ρ o).run P w = .ok (.value v) w := by
  obtain ⟨dst, op, ty, pos, af, g⟩ := o
  simp only at ho; subst ho
  simp [execOp, ht, Instr.extract, h]
theorem exec_entry {ρ : Operand → Value} {o : Oper} {it : Tmp} {w w' : World} {v : Value} (ho : o.op = .entry (.tmp it)) (h : (Instr.entry (ρ (.tmp it))).run P w = .ok v w') : (execOp ρ o).run P w = .ok (.value v) w' := by
  obtain ⟨dst, op, ty, pos, af, g⟩ := o
  simp only at ho; subst ho
  simp [execOp, h]
theorem exec_assign {ρ : Operand → Value} {o : Oper} {t : Tmp} {w : World} (ho : o.op = .assign (.tmp t)) : (execOp ρ o).run P w = .ok (.value (ρ (.tmp t))) w := by
  obtain ⟨dst, op, ty, pos, af, g⟩ := o
  simp only at ho; subst ho
  simp [execOp]

theorem exec_move {ρ : Operand → Value} {o : Oper} {t : Tmp} {w : World} (ho : o.op = .move (.tmp t)) : (execOp ρ o).run P w = .ok (.value (ρ (.tmp t))) w := by
  obtain ⟨dst, op, ty, pos, af, g⟩ := o
  simp only at ho; subst ho
  simp [execOp]
theorem exec_store {ρ : Operand → Value} {o : Oper} {st : TypeId} {t : Tmp} {b : Bool} {w w' : World} (ho : o.op = .store st (.tmp t) (.const (.bool b))) (h : (Instr.storeAt st (ρ (.tmp t)) (ρ (.const (.bool b)))).run P w = .ok () w') : (execOp ρ o).run P w = .ok .skip w' := by
  obtain ⟨dst, op, ty, pos, af, g⟩ := o
  simp only at ho; subst ho
  simp [execOp, h]
theorem wpOps_skip {ops : Array Oper} {i : Nat} {o : Oper} {rest : List Nat} {Q : Exit → Act → World → Prop} {a : Act} {w w' : World} (hi : ops[i]? = some o) (hg : o.guard = none) (hr : (execOp a.eval o).run P w = .ok .skip w')
    (hn : wpOps P ops Q rest (a.put o.dst undef) w') : wpOps P ops Q (i :: rest) a w := by
  simp only [wpOps, hi]
  rw [if_pos (by simp [Region.wanted, hg])]
  left
  show o.upon P a _ Q _
  rw [hr]; exact hn
theorem frOne {φ : Phi} {nt : Nat} {a : Act} {d : Nat} {v : AV} (hl : Rho.gphi.le φ) (hs : nt ≤ a.tmps.size) (hv : RV φ (a.tmps.getD d undef) v) : FrRel φ nt a.tmps (T.set v (posOf d) .leaf) := by
  refine ⟨hl, hs, fun t x ht => ?_⟩
  rw [T.get_set] at ht
  split at ht
  · rename_i e
    have := posOf_inj e; subst this
    simp only [Option.some.injEq] at ht; subst ht; exact hv
  · rw [get_leaf] at ht; simp at ht
theorem born_inj {es : List MapEntry} {e e' : MapEntry} (hn : (es.map (·.born)).Nodup) (h : e' ∈ es) (h' : e ∈ es) (hb : e'.born = e.born) : e' = e := by
  induction es with
  | nil => simp at h
  | cons x es ih =>
    simp only [List.map_cons, List.nodup_cons] at hn
    rcases List.mem_cons.1 h with g1 | g1 <;> rcases List.mem_cons.1 h' with g2 | g2
    · rw [g1, g2]
    · exact absurd (show x.born ∈ es.map (·.born) from List.mem_map.2 ⟨e, g2, by rw [← g1, hb]⟩) hn.1
    · exact absurd (show x.born ∈ es.map (·.born) from List.mem_map.2 ⟨e', g1, by rw [← g2, hb]⟩) hn.1
    · exact ih hn.2 g1 g2
theorem ptr_uniq {w0 : World} {φ : Phi} {h : HP} {w : World} (r : Rel w0 φ h w) {z : Value} {c d : Pos} {o q off : Nat} {k k' : Blk} (h1 : RV φ z (.ptr c o)) (h2 : RV φ z (.ptr d q)) (hc : h.get c = some k) (hd : h.get d = some k') (hw : k.wr = true := by rfl) : (c, o + off) = (d, q + off) := by
  obtain ⟨l1, g1, e1⟩ : ∃ l, φ c = some l ∧ z = .pointer (some ⟨l.blk, l.off + o, none⟩) := by cases h1 with | ptr _ _ l hl => exact ⟨l, hl, rfl⟩
  obtain ⟨l2, g2, e2⟩ : ∃ l, φ d = some l ∧ z = .pointer (some ⟨l.blk, l.off + q, none⟩) := by cases h2 with | ptr _ _ l hl => exact ⟨l, hl, rfl⟩
  rw [e1] at e2
  simp only [Value.pointer.injEq, Option.some.injEq, Addr.mk.injEq, and_true] at e2
  have := r.inj c d l1 l2 k k' g1 g2 hc hd hw e2.1
  subst this
  rw [g1] at g2
  simp only [Option.some.injEq] at g2; subst g2
  have : o = q := by omega
  rw [this]
theorem Ext.trans' {φ φ0 : Phi} {h h0 : HP} {w w1 w2 w00 : World} (e : Ext φ0 h0 w00 φ h w) (s1 : Same w w1) (s2 : Same w1 w2) : Ext φ0 h0 w00 φ h w2 :=
  ⟨e.le, e.nx, by rw [s2.heap, s1.heap]; exact e.sz, e.fa⟩
variable {call : CallF}
theorem Ext.kill {φ : Phi} {h : HP} {w : World} {φ0 : Phi} {h0 : HP} {w00 : World} (e : Ext φ0 h0 w00 φ h w) {b : Pos} {l : Loc} (hb : φ b = some l) : Ext φ0 h0 w00 φ (h.put b none) w := by
  refine ⟨e.le, by rw [HP.nx_put]; exact e.nx, e.sz, fun c hc hn => ?_⟩
  obtain ⟨h1, h2⟩ := e.fa c hc hn
  refine ⟨h1, ?_⟩
  rw [HP.get_put, if_neg (by intro e'; subst e'; rw [hb] at h1; simp at h1)]; exact h2
theorem Ext.congr' {φ : Phi} {h h' : HP} {w w' : World} {φ0 : Phi} {h0 : HP} {w00 : World} (e : Ext φ0 h0 w00 φ h w) (hn : h.nx = h'.nx) (hg : ∀ b, h.get b = h'.get b) (hw : w.heap.size ≤ w'.heap.size) : Ext φ0 h0 w00 φ h' w' :=
  ⟨e.le, by rw [← hn]; exact e.nx, Nat.le_trans e.sz hw, fun c hc hnn => let ⟨h1, h2⟩ := e.fa c hc hnn; ⟨h1, (hg c).symm.trans h2⟩⟩
theorem FrRel.sub {φ : Phi} {nt : Nat} {tmps : Array Value} {fr fr' : T AV} (h : FrRel φ nt tmps fr) (hs : ∀ p v, T.get p fr' = some v → T.get p fr = some v) : FrRel φ nt tmps fr' := ⟨h.gl, h.size, fun t a ht => h.val t a (hs _ _ ht)⟩

structure RInv (B : Base) (φ : Phi) (fr : T AV) (df : List ADef) (cs : List Frame) (it : Tmp) (r bm n : Nat) (ents : Array MapEntry) (es : List (AV × AV)) (off : Nat) (v : AV) (h0 : HP) (seen : Array Nat) (a : Act) (w : World) : Prop where
  ex : ∃ h T c, SR B φ ⟨fr, h, df, .no⟩ a cs w ∧ Part v h0 T h ∧ w.heap[r]? = some (.mapIter (some bm) n seen c) ∧ n ≤ c ∧ w.heap[bm]? = some (.map ents n) ∧ (∀ y ∈ T, y ∈ targets off es) ∧
    (∀ e ∈ ents.toList, seen.contains e.born = true → ∀ c o cs, RV φ e.val (.ptr c o) → h0.get c = some (.cells true cs) → (c, o + off) ∈ T)
  it : a.tmps.getD it undef = .pointer (some ⟨r, 0, none⟩)

theorem rstore_ok (hc : CallOk P B.w0 call) {id : Nat} {c : Code} {it : Pos} {off : Nat} {v : AV} {kill : List Pos} {s : St} {φ : Phi} {a : Act} {cs : List Frame} {w : World} {out : Out} (ht : trLoop P B.nt id c = some (it, off, v, kill)) (sr : SR B φ s a cs w)
    (he : (ob (T.get it s.fr) fun x => ob (rstoreH x off v s.u s.h) fun h => some (Out.normal ⟨delL kill s.fr, h, s.df, s.u⟩)) = some out) : (Code.block id c).wp P (fun e a' w' => OutR B out e a' cs w') a w := by
  unfold trLoop at ht
  split at ht
  rotate_left
  · simp at ht
  rename_i x hx
  obtain ⟨off', ho, e⟩ := Option.map_eq_some_iff.1 ht
  simp only [Prod.mk.injEq] at e
  obtain ⟨rfl, rfl, rfl, rfl⟩ := e
  obtain ⟨⟨i1, i2, i3, i4, o1, o2, o3, o4, o5, o6, o7, o8, o9, hcode, ⟨a1, b1, c1⟩, ⟨a2, b2, c2⟩, ⟨a3, b3, c3⟩, ⟨a4, b4, c4⟩, ⟨a5, b5, c5⟩, ⟨a6, b6, c6⟩, ⟨a7, b7, c7⟩, ⟨a8, b8, c8⟩, ⟨a9, b9, c9⟩⟩, ⟨l1, l2, l3, l4, l5, l6, l7, l8⟩, nd⟩ := rsh_inv hx
  subst hcode
  obtain ⟨xa, hxa, he⟩ := ob_eq he
  obtain ⟨hT, hrs, he⟩ := ob_eq he
  simp only [Option.some.injEq] at he; subst he
  unfold rstoreH at hrs
  split at hrs
  rotate_left
  · simp at hrs
  rename_i bi hu
  obtain ⟨k, hk, hrs⟩ := ob_eq hrs
  split at hrs
  rotate_left
  · simp at hrs
  rename_i m n
  obtain ⟨k2, hk2, hrs⟩ := ob_eq hrs
  split at hrs
  rotate_left
  · simp at hrs
  rename_i es cl
  obtain ⟨hbeq, hall0⟩ := bif_eq hrs
  clear hrs
  have hncl := Nat.eq_of_beq_eq_true hbeq
  subst hncl
  -- the iterator and the map in the world
  have hit0 := sr.fr.val x.it _ hxa
  obtain ⟨l, hl, hval⟩ : ∃ l, φ bi = some l ∧ a.tmps.getD x.it undef = .pointer (some ⟨l.blk, l.off + 0, none⟩) := by
    generalize a.tmps.getD x.it undef = z at hit0
    cases hit0 with
    | ptr _ _ l hl => exact ⟨l, hl, rfl⟩
  obtain ⟨hge, hoff, lm, hlm, hiter⟩ := sr.rel.ok bi l _ hl hk
  obtain ⟨_, ents, hents, hrvp, hwf⟩ := sr.rel.ok m lm _ hlm hk2
  rw [hoff, Nat.zero_add] at hval
  have hone : (AV.bool x.b).one = true := rfl
  obtain ⟨htg, T', hpT, hT'⟩ := storeAll_inv hone es [] (s.h.put bi none) hT (Part.nil _ _) hall0
  have hblt : l.blk < w.heap.size := (sr.rel.dom bi l hl).2
  -- what the frame holds behind the loop
  have hsub : ∀ p v, T.get p (delL x.kill s.fr) = some v → T.get p s.fr = some v := fun p v hv => (delL_get p s.fr v _ hv).2
  have hnone : ∀ d, d ∈ [x.d1, x.d2, x.d3, x.d4, x.d5, x.d6, x.d7, x.d8] → T.get (posOf d) (delL x.kill s.fr) = none := fun d hd => delL_none (by unfold RSh.kill; exact List.mem_map_of_mem hd)
  have hD : B.D = false := sr.dd.2 hu
  obtain ⟨sfr, sh, sdf, su⟩ := s
  simp only at hu hk hk2 hxa hall0 htg hpT hsub hnone sr
  subst hu
  have h0get : ∀ c k, (sh.put bi none).get c = some k → c ≠ bi ∧ sh.get c = some k := by
    intro c k hck
    rw [HP.get_put] at hck
    split at hck
    · simp at hck
    · exact ⟨‹_›, hck⟩
  -- no live block is the iterator's
  have noref : ∀ {h : HP} {T : List (Pos × Nat)}, Part (.bool x.b) (sh.put bi none) T h → ∀ c l' k, φ c = some l' → h.get c = some k → l'.blk ≠ l.blk := by
    intro h T hp c l' k hc' hk' e
    rw [hp.get] at hk'
    cases hq : (sh.put bi none).get c with
    | none => rw [hq] at hk'; simp at hk'
    | some k0 =>
      obtain ⟨hne, hq⟩ := h0get c k0 hq
      exact hne (sr.rel.inj bi c l l' _ k0 hl hc' hk hq rfl e.symm).symm
  refine wp_block (wp_loop (fun a w => ∃ seen, RInv B φ (delL x.kill sfr) sdf cs x.it l.blk lm.blk n ents es off' (.bool x.b) (sh.put bi none) seen a w)
    (fun _ w => match w.heap[l.blk]? with | some (.mapIter _ _ seen _) => (leftOf ents seen).size | _ => 0) ?_ ?_)
  · refine ⟨#[], ⟨sh.put bi none, [], n, ⟨sr.fr.sub hsub, sr.rel.kill bi, sr.ext.kill hl, sr.df, sr.cs, sr.dd⟩, Part.nil _ _, hiter, Nat.le_refl _, hents, by simp, by simp⟩, hval⟩
  · rintro a' w' ⟨seen, ⟨h, TT, ck, sr', hp, hit, hnc, hbm, hA, hB⟩, hitv⟩
    have hblt' : l.blk < w'.heap.size := by
      rcases Nat.lt_or_ge l.blk w'.heap.size with h | h
      · exact h
      · rw [Array.getElem?_eq_none h] at hit; simp at hit
    have hsz : B.nt ≤ a'.tmps.size := sr'.fr.size
    refine wp_seq (wp_region ?_)
    rw [show List.range (#[o1, o2] : Array Oper).size = [0, 1] from rfl]
    have ev1 : a'.eval (.tmp x.it) = .pointer (some ⟨l.blk, 0, none⟩) := hitv
    have nd' := nd
    simp only [List.nodup_cons, List.mem_cons, List.not_mem_nil, or_false, not_or, List.nodup_nil, and_true] at nd'
    obtain ⟨⟨n01, n02, n03, n04, n05, n06, n07, n08⟩, ⟨n12, n13, n14, n15, n16, n17, n18⟩, ⟨n23, n24, n25, n26, n27, n28⟩, ⟨n34, n35, n36, n37, n38⟩, ⟨n45, n46, n47, n48⟩, ⟨n56, n57, n58⟩, ⟨n67, n68⟩, n78⟩ := nd'
    rcases run_next_at (P := P) w' o1.type l.blk lm.blk n ck seen ents n hit hbm hwf.1 hnc with ⟨hz, hrun⟩ | ⟨e, hmem, w1, hw1, hrun⟩
    · -- nothing is left
      refine wpOps_value (o := o1) (by simp) a1 (exec_next c1 (by rw [ev1]; exact hrun)) ?_
      rw [b1]
      have hs1 : x.d1 < a'.tmps.size := Nat.lt_of_lt_of_le l1 hsz
      refine wpOps_value (o := o2) (v := .bool false) (by simp) a2 (exec_extract c2 (by show (a'.put (some x.d1) _).tmps.getD x.d1 undef = _; exact getD_put_same hs1) (by simp)) ?_
      rw [b2]
      have hs2 : x.d2 < (a'.put (some x.d1) (.tuple #[.bool false])).tmps.size := by show _ < (a'.tmps.setIfInBounds _ _).size; simp; exact Nat.lt_of_lt_of_le l2 hsz
      refine wp_seq (wp_cond_false (getD_put_same hs2) (wp_exit ?_))
      simp only [Exit.then, Exit.inBlock]
      rw [if_pos trivial]
      have hall := all_seen ents seen hz
      obtain ⟨g1, g2⟩ := Part.same hp hpT (T' := T') (fun y => ⟨fun hy => (hT' y).2 (.inr (hA y hy)), fun hy => by
        rcases (hT' y).1 hy with h | h
        · simp at h
        · obtain ⟨ae, hae, c, o, h2, rfl⟩ := targets_mem h
          obtain ⟨e, he, hrv⟩ := hrvp.memr hae
          obtain ⟨c', o', cs', h3, h4, h5⟩ := htg ae hae
          rw [h2] at h3; simp only [AV.ptr.injEq] at h3; obtain ⟨rfl, rfl⟩ := h3
          rw [h2] at hrv
          exact hB e he (hall e he) c o cs' hrv h4⟩)
      refine ⟨rfl, φ, ⟨?_, sr'.rel.congr g1 g2, sr'.ext.congr' g1 g2 (Nat.le_refl _), by rw [put_defers, put_defers]; exact sr'.df, sr'.cs, sr'.dd⟩⟩
      exact (sr'.fr.side (hnone _ (by simp)) _).side (hnone _ (by simp)) _
    · -- one entry
      obtain ⟨hme, hns⟩ := mem_left hmem
      have tw := turned_set (o := .mapIter (some lm.blk) n (seen.push e.born) n) hw1 hblt'
      generalize hw2 : setBlock w1 l.blk (.mapIter (some lm.blk) n (seen.push e.born) n) = w2 at tw hrun
      have rel2 : Rel B.w0 φ h w2 := sr'.rel.aside tw hge (by intro c el fz h; simp at h) (noref hp)
      refine wpOps_value (o := o1) (by simp) a1 (exec_next c1 (by rw [ev1]; exact hrun)) ?_
      rw [b1]
      have hs1 : x.d1 < a'.tmps.size := Nat.lt_of_lt_of_le l1 hsz
      refine wpOps_value (o := o2) (v := .bool true) (by simp) a2 (exec_extract c2 (by show (a'.put (some x.d1) _).tmps.getD x.d1 undef = _; exact getD_put_same hs1) (by simp)) ?_
      rw [b2]
      generalize hA2 : (a'.put (some x.d1) (.tuple #[.bool true, e.key, e.val])).put (some x.d2) (.bool true) = A2
      have sz2 : A2.tmps.size = a'.tmps.size := by subst hA2; show ((a'.tmps.setIfInBounds _ _).setIfInBounds _ _).size = _; simp
      have fr2 : FrRel φ B.nt A2.tmps (delL x.kill sfr) := by subst hA2; exact (sr'.fr.side (hnone _ (by simp)) _).side (hnone _ (by simp)) _
      have df2 : A2.defers = a'.defers := by subst hA2; rw [put_defers, put_defers]
      have itv2 : A2.tmps.getD x.it undef = .pointer (some ⟨l.blk, 0, none⟩) := by subst hA2; rw [getD_put_ne n02, getD_put_ne n01]; exact hitv
      have cond2 : A2.eval (.tmp x.d2) = .bool true := by
        subst hA2
        exact getD_put_same (by show _ < (a'.tmps.setIfInBounds _ _).size; simp; exact Nat.lt_of_lt_of_le l2 hsz)
      clear hA2
      refine wp_seq (wp_cond_true cond2 (wp_skip ?_))
      show (Code.block i3 _).wp P _ A2 w2
      refine wp_block (wp_seq (wp_region ?_))
      rw [show List.range (#[o3, o4, o5] : Array Oper).size = [0, 1, 2] from rfl]
      have hit2 : w2.heap[l.blk]? = some (.mapIter (some lm.blk) n (seen.push e.born) n) := by rw [tw.heap, if_pos rfl]
      have hnelm : lm.blk ≠ l.blk := by intro e'; rw [e'] at hbm; rw [hit] at hbm; simp at hbm
      have hbm2 : w2.heap[lm.blk]? = some (.map ents n) := by rw [tw.heap, if_neg hnelm]; exact hbm
      have hent := run_entry_at (P := P) w2 l.blk lm.blk n seen ents n e hit2 hbm2 hme hwf.2
      refine wpOps_value (o := o3) (by simp) a3 (exec_entry c3 (by rw [show A2.eval (.tmp x.it) = _ from itv2]; exact hent)) ?_
      rw [b3]
      refine wpOps_value (o := o4) (v := e.val) (by simp) a4 (exec_extract c4 (by show (A2.put (some x.d3) _).tmps.getD x.d3 undef = _; exact getD_put_same (by rw [sz2]; exact Nat.lt_of_lt_of_le l3 hsz)) (by simp)) ?_
      rw [b4]
      refine wpOps_value (o := o5) (by simp) a5 (exec_assign c5) ?_
      rw [b5]
      have ev4 : ((A2.put (some x.d3) (.tuple #[e.key, e.val])).put (some x.d4) e.val).eval (.tmp x.d4) = e.val := getD_put_same (by show _ < (A2.tmps.setIfInBounds _ _).size; simp; rw [sz2]; exact Nat.lt_of_lt_of_le l4 hsz)
      rw [ev4]
      generalize hA3 : ((A2.put (some x.d3) (.tuple #[e.key, e.val])).put (some x.d4) e.val).put (some x.d5) e.val = A3
      have sz3 : A3.tmps.size = a'.tmps.size := by subst hA3; show (((A2.tmps.setIfInBounds _ _).setIfInBounds _ _).setIfInBounds _ _).size = _; simp [sz2]
      have fr3 : FrRel φ B.nt A3.tmps (delL x.kill sfr) := by subst hA3; exact ((fr2.side (hnone _ (by simp)) _).side (hnone _ (by simp)) _).side (hnone _ (by simp)) _
      have df3 : A3.defers = a'.defers := by subst hA3; rw [put_defers, put_defers, put_defers]; exact df2
      have itv3 : A3.tmps.getD x.it undef = .pointer (some ⟨l.blk, 0, none⟩) := by subst hA3; rw [getD_put_ne n05, getD_put_ne n04, getD_put_ne n03]; exact itv2
      have v5 : A3.tmps.getD x.d5 undef = e.val := by
        subst hA3
        exact getD_put_same (by show _ < ((A2.tmps.setIfInBounds _ _).setIfInBounds _ _).size; simp; rw [sz2]; exact Nat.lt_of_lt_of_le l5 hsz)
      clear hA3
      -- the store
      obtain ⟨ae, hae, hrv⟩ := hrvp.mem hme
      obtain ⟨tc, to, tcs, ht1, ht2, ht3⟩ := htg ae hae
      rw [ht1] at hrv
      obtain ⟨h', hst, hp'⟩ := hp.store hone ht2 ht3
      have fr3' : FrRel φ B.nt A3.tmps (T.set (.ptr tc to) (posOf x.d5) (delL x.kill sfr)) := by
        refine ⟨fr3.gl, fr3.size, fun t av ht => ?_⟩
        rw [T.get_set] at ht
        split at ht
        · rename_i e'
          have := posOf_inj e'; subst this
          simp only [Option.some.injEq] at ht; subst ht
          rw [v5]; exact hrv
        · exact fr3.val t av ht
      have ext2 : Ext B.φ B.h B.w φ h w2 := ⟨sr'.ext.le, sr'.ext.nx, Nat.le_trans sr'.ext.sz (by rw [tw.size]; exact Nat.le_refl _), sr'.ext.fa⟩
      clear fr3'
      -- its address
      have hfo : ∃ nn ag, fieldOf P x.ty x.fi = some (off', nn + 1, ag) ∧ aggT P x.st = some false ∧ szOf P x.st = some 1 := by
        unfold RSh.off at ho
        split at ho
        · rename_i o' nn ag g1 g2 g3
          simp only [Option.some.injEq] at ho; subst ho
          exact ⟨nn, ag, g1, g2, g3⟩
        · simp at ho
      obtain ⟨nn, ag, hf, hag, hsz1⟩ := hfo
      refine wp_mono (wp_region (Q := fun ex a4 w4 => ex = .normal ∧ ∃ w5, SR B φ ⟨delL x.kill sfr, h', sdf, .no⟩ a4 cs w4 ∧ a4.tmps.getD x.it undef = .pointer (some ⟨l.blk, 0, none⟩) ∧ w4.heap[l.blk]? = w5 ∧ w5 = some (.mapIter (some lm.blk) n (seen.push e.born) n) ∧ w4.heap[lm.blk]? = some (.map ents n)) ?_) ?_
      · rw [show List.range (#[o6, o7, o8, o9] : Array Oper).size = [0, 1, 2, 3] from rfl]
        refine wpOps_value (o := o6) (by simp) a6 (exec_move c6) ?_
        rw [b6, show A3.eval (.tmp x.d5) = e.val from v5]
        generalize hA4 : A3.put (some x.d6) e.val = A4
        have sz4 : A4.tmps.size = a'.tmps.size := by subst hA4; show (A3.tmps.setIfInBounds _ _).size = _; simp [sz3]
        have fr4 : FrRel φ B.nt A4.tmps (delL x.kill sfr) := by subst hA4; exact fr3.side (hnone _ (by simp)) _
        have df4 : A4.defers = a'.defers := by subst hA4; rw [put_defers]; exact df3
        have itv4 : A4.tmps.getD x.it undef = .pointer (some ⟨l.blk, 0, none⟩) := by subst hA4; rw [getD_put_ne n06]; exact itv3
        have v6 : A4.tmps.getD x.d6 undef = e.val := by subst hA4; exact getD_put_same (by rw [sz3]; exact Nat.lt_of_lt_of_le l6 hsz)
        clear hA4
        obtain ⟨u7, w3, r7, rv7, sm7⟩ := evP_ok (P := P) (w := w2) (opdRel (frOne (nt := B.nt) fr2.gl (by rw [sz4]; exact hsz) (by rw [v6]; exact hrv))) o7 (q := .nilck (.t (posOf x.d6))) (r := .ptr tc to) (by rw [c7]; rfl) (by show ob (T.get _ _) _ = _; rw [T.get_set_same]; rfl)
        refine wpOps_value (o := o7) (by simp) a7 r7 ?_
        rw [b7]
        generalize hA5 : A4.put (some x.d7) u7 = A5
        have sz5 : A5.tmps.size = a'.tmps.size := by subst hA5; show (A4.tmps.setIfInBounds _ _).size = _; simp [sz4]
        have fr5 : FrRel φ B.nt A5.tmps (delL x.kill sfr) := by subst hA5; exact fr4.side (hnone _ (by simp)) _
        have df5 : A5.defers = a'.defers := by subst hA5; rw [put_defers]; exact df4
        have itv5 : A5.tmps.getD x.it undef = .pointer (some ⟨l.blk, 0, none⟩) := by subst hA5; rw [getD_put_ne n07]; exact itv4
        have v7 : A5.tmps.getD x.d7 undef = u7 := by subst hA5; exact getD_put_same (by rw [sz4]; exact Nat.lt_of_lt_of_le l7 hsz)
        clear hA5
        obtain ⟨u8, w4, r8, rv8, sm8⟩ := evP_ok (P := P) (w := w3) (opdRel (frOne (nt := B.nt) fr2.gl (by rw [sz5]; exact hsz) (by rw [v7]; exact rv7))) o8 (q := .faddr off' (.t (posOf x.d7))) (r := .ptr tc (Nat.add to off')) (by rw [c8]; simp only [trOp, hf, trOpd]) (by show ob (T.get _ _) _ = _; rw [T.get_set_same]; rfl)
        refine wpOps_value (o := o8) (by simp) a8 r8 ?_
        rw [b8]
        generalize hA6 : A5.put (some x.d8) u8 = A6
        have sz6 : A6.tmps.size = a'.tmps.size := by subst hA6; show (A5.tmps.setIfInBounds _ _).size = _; simp [sz5]
        have fr6 : FrRel φ B.nt A6.tmps (delL x.kill sfr) := by subst hA6; exact fr5.side (hnone _ (by simp)) _
        have df6 : A6.defers = a'.defers := by subst hA6; rw [put_defers]; exact df5
        have itv6 : A6.tmps.getD x.it undef = .pointer (some ⟨l.blk, 0, none⟩) := by subst hA6; rw [getD_put_ne n08]; exact itv5
        have v8 : A6.tmps.getD x.d8 undef = u8 := by subst hA6; exact getD_put_same (by rw [sz5]; exact Nat.lt_of_lt_of_le l8 hsz)
        clear hA6
        have rel4 := sm8.rel (sm7.rel rel2)
        obtain ⟨w5, lt, ob', hlt, r9, tn9, rel5, ext5⟩ := store_turned (P := P) rel4 hsz1 rv8 (.bool x.b) hone hst
        refine wpOps_skip (o := o9) (by simp) a9 (exec_store c9 (by rw [show A6.eval (.tmp x.d8) = u8 from v8]; exact r9)) ?_
        rw [b9]
        have hlive : ∃ kk, h.get tc = some kk ∧ kk = .cells true (updL (.bool x.b) TT tc tcs) := ⟨_, by rw [hp.get, ht2]; rfl, rfl⟩
        obtain ⟨kk, hkk, rfl⟩ := hlive
        have hner : lt.blk ≠ l.blk := noref hp tc lt _ hlt hkk
        have hnem : lt.blk ≠ lm.blk := by
          intro e'
          obtain ⟨_, _, cc, el, q1, _⟩ := rel2.ok tc lt _ hlt hkk
          rw [e', hbm2] at q1; simp at q1
        have hw5 : ∀ i, i ≠ lt.blk → w5.heap[i]? = w2.heap[i]? := by
          intro i hi; rw [tn9.heap, if_neg hi, sm8.heap, sm7.heap]
        refine ⟨rfl, _, ⟨fr6, rel5, (ext2.trans' sm7 sm8).trans ext5, by show DfRel φ A6.defers sdf; rw [df6]; exact sr'.df, sr'.cs, sr'.dd⟩, itv6, rfl, by rw [hw5 _ (fun e' => hner e'.symm)]; exact hit2, by rw [hw5 _ (fun e' => hnem e'.symm)]; exact hbm2⟩
      · rintro e4 a4 w4 ⟨rfl, w5, sr4, hit4, hw4, rfl, hbm4⟩
        show Exit.inBlock i3 _ .normal a4 w4
        refine ⟨⟨seen.push e.born, ⟨h', (tc, to + off') :: TT, n, sr4, hp', hw4, Nat.le_refl _, hbm4, ?_, ?_⟩, hit4⟩, ?_⟩
        · intro y hy
          rcases List.mem_cons.1 hy with rfl | hy
          · exact mem_targets hae ht1
          · exact hA y hy
        · intro e' he' hse' c o cs' hrv' hc'
          rw [List.mem_cons]
          by_cases hs' : seen.contains e'.born = true
          · exact .inr (hB e' he' hs' c o cs' hrv' hc')
          · left
            have hborn : e'.born = e.born := by
              rw [Array.contains_iff_mem, Array.mem_push] at hse'
              rcases hse' with h | h
              · exact absurd (Array.contains_iff_mem.2 h) hs'
              · exact h
            have hee : e' = e := born_inj hwf.2 he' hme hborn
            subst hee
            exact ptr_uniq sr.rel hrv' hrv (h0get _ _ hc').2 (h0get _ _ ht2).2
        · show (match w4.heap[l.blk]? with | some (.mapIter _ _ seen _) => (leftOf ents seen).size | _ => 0) < (match w'.heap[l.blk]? with | some (.mapIter _ _ seen _) => (leftOf ents seen).size | _ => 0)
          rw [hw4, hit]
          exact left_shrinks ents seen e hmem
end
end Go.Proofs.YtblciblkocameaaGreat.Ev
