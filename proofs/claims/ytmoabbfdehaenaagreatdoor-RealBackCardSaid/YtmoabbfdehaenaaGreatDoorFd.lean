/- A framework for walks: Regions whose order is drawn: the theorem. Regions and code. Regions that end in two stores, in whatever order. -/
import Derived.Test.YtmoabbfdehaenaaGreatDoorFc
import Derived.Scope
set_option linter.unusedVariables false
set_option linter.unusedSimpArgs false
set_option linter.unusedSectionVars false
namespace Go.Proofs.YtmoabbfdehaenaaGreatDoor.Ev
open Go
variable [Rho]
section
variable {P : Program} {nt : Nat} {ops : Array Oper} {bef : Nat → Nat} {c : List Nat} {call : CallF} {re : Nat → List Re} {N : Nat} {st : Nat → St} {out : Out}
variable {B : Base} {S : Nat → Prop} {φ φ' : Phi} {a : Act} {cs : List Frame} {w w' : World} {b j i : Nat} {o : Oper}

theorem again1_true {g : Option (Pos × Bool)} {q : LO} {d : Pos} {fr : T AV} {h : HP} {v : AV} (ha : again1 ⟨g, q, d⟩ fr h = true) (hg : wantedA g fr = some true) (hd : T.get d fr = some v) : evL q fr h = some v := by
  unfold again1 at ha
  rw [hg] at ha
  simp only at ha
  cases he : evL q fr h with
  | none => rw [he] at ha; simp at ha
  | some u =>
    rw [he, hd] at ha
    have := beqA_eq (x := u) (y := v) ha
    rw [this]

theorem againO_mem {op : AOp} {x : Re} {fr : T AV} {h : HP} {re : List Re} (hm : x ∈ re) (ha : againO op re fr h = true) : again1 x fr h = true ∨ ∃ q, op = .e q ∧ disj q x.l fr = true := by
  cases op with
  | e q =>
    have ha : againE q re fr h = true := ha
    induction re with
    | nil => simp at hm
    | cons y re ih =>
      have ha : (Bool.casesOn (bif disj q y.l fr then true else again1 y fr h) false (againE q re fr h) : Bool) = true := ha
      cases hb : (bif disj q y.l fr then true else again1 y fr h) with
      | false => rw [hb] at ha; simp at ha
      | true =>
        rw [hb] at ha
        rcases List.mem_cons.1 hm with rfl | hm
        · cases hd : disj q x.l fr with
          | true => exact .inr ⟨q, rfl, hd⟩
          | false => rw [hd] at hb; exact .inl hb
        · exact ih hm ha ha
  | _ => exact .inl (again_mem hm ha)
omit [Rho] in
theorem farP_true {x y : Option AV} (h : farP x y = true) : ∃ b o c p, x = some (.ptr b o) ∧ y = some (.ptr c p) ∧ c ≠ b := by
  cases x with
  | none => exact ff h
  | some x =>
    cases y with
    | none => exact ff h
    | some y =>
      cases x <;> try exact ff h
      cases y <;> try exact ff h
      rename_i b o c p
      refine ⟨b, o, c, p, rfl, rfl, fun e => ?_⟩
      subst e
      have h : (Bool.rec true false (beqPos c c) : Bool) = true := h
      rw [(beqPos_iff c c).2 rfl] at h
      exact ff h
theorem storeAt_get {b c : Pos} {o : Nat} {vs : List AV} {h h' : HP} (hs : storeAt b o vs h = some h') (hne : c ≠ b) : h'.get c = h.get c := by
  unfold storeAt at hs
  obtain ⟨k, hk, hs⟩ := ob_eq hs
  split at hs
  · obtain ⟨_, hs⟩ := bif_eq hs
    obtain ⟨q, _, hs⟩ := ob_eq hs
    simp only [Option.some.injEq] at hs; subst hs
    rw [HP.get_put, if_neg hne]
  · simp at hs
theorem evL_far {l : LO} {p : Opd} {fr : T AV} {h h' : HP} {c : Pos} {o : Nat} (hl : srcO l = some p) (hp : opv fr p = some (.ptr c o)) (hg : h'.get c = h.get c) : evL l fr h' = evL l fr h := by
  have no : ∀ {C : Prop}, (none : Option Opd) = some p → C := fun e => by simp at e
  cases l with
  | cell a =>
    obtain rfl : a = p := Option.some.inj (show some a = some p from hl)
    show (ob (opv fr a) fun a => cellV a h') = ob (opv fr a) fun a => cellV a h
    rw [hp]
    show (ob (h'.get c) _) = ob (h.get c) _
    rw [hg]
  | cells n a =>
    obtain rfl : a = p := Option.some.inj (show some a = some p from hl)
    show (ob (opv fr a) fun a => cellsV n a h') = ob (opv fr a) fun a => cellsV n a h
    rw [hp]
    show (ob (h'.get c) _) = ob (h.get c) _
    rw [hg]
  | _ => exact no hl
theorem evL_disj {q : EO} {l : LO} {fr : T AV} {h h' : HP} {u : AV} (hd : disj q l fr = true) (he : evE q fr h = some (u, h')) : evL l fr h' = evL l fr h := by
  unfold disj at hd
  split at hd
  · rename_i a p ha hp
    obtain ⟨b, o, c, o', h1, h2, hne⟩ := farP_true hd
    refine evL_far hp h2 ?_
    have no : ∀ {C : Prop}, (none : Option Opd) = some a → C := fun e => by simp at e
    cases q <;> try exact no ha
    · rename_i a' x'
      obtain rfl : a' = a := Option.some.inj (show some a' = some a from ha)
      simp only [evE, h1, ob_some] at he
      obtain ⟨x, _, he⟩ := ob_eq he
      obtain ⟨h2, hs, he⟩ := ob_eq he
      simp only [Option.some.injEq, Prod.mk.injEq] at he
      obtain ⟨_, rfl⟩ := he
      exact storeAt_get (show storeAt b o [x] h = some h2 from hs) hne
    · rename_i n' a' x'
      obtain rfl : a' = a := Option.some.inj (show some a' = some a from ha)
      simp only [evE, h1, ob_some] at he
      obtain ⟨x, _, he⟩ := ob_eq he
      obtain ⟨h2, hs, he⟩ := ob_eq he
      simp only [Option.some.injEq, Prod.mk.injEq] at he
      obtain ⟨_, rfl⟩ := he
      cases x <;> try exact absurd (show (none : Option HP) = some h2 from hs) (by simp)
      rename_i cs _
      obtain ⟨_, hs⟩ := bif_eq (show (bif Nat.beq (lenL cs) n' then storeAt b o cs h else none) = some h2 from hs)
      exact storeAt_get hs hne
  · simp at hd

theorem Inv.reload (pl : Plan P nt ops bef c) (ru : Runs P nt ops call c re N st out) (iv : Inv P nt ops bef c N st B S φ a cs w b) (hi : c[b]? = some i) (hr : ∀ k, (bef i).testBit k = true → S k)
    (hre : rechecks (ops.map (trOper P nt ops)) bef i c = some (re b)) {h' : HP} {aop : AOp} (hae : ∀ q, aop = .e q → ∃ v, evE q (st b).fr (st b).h = some (v, h')) (hag : againO aop (re b) (st b).fr h' = true) :
    ∀ (j i : Nat) (o : Oper) (q : LO) (v : AV), j < b → c[j]? = some i → ops[i]? = some o → ¬ S i → wantedA (trOper P nt ops o).guard (st j).fr = some true → (trOper P nt ops o).op = .l q → evL q (st j).fr (st j).h = some v → evL q (st j).fr h' = some v := by
  intro j i2 o q v hj hi2 ho hnS hw hop hev
  have hbN := iv.ble
  have mp : ∀ {i : Nat} {o : Oper}, ops[i]? = some o → (ops.map (trOper P nt ops))[i]? = some (trOper P nt ops o) := by intro i o h; simp [h]
  have hbit : (bef i).testBit i2 = false := by
    cases hb : (bef i).testBit i2 with
    | false => rfl
    | true => exact absurd (hr _ hb) hnS
  obtain ⟨d, hd, hdr, hall, hmem⟩ := rechecks_spec hre hi2 (fun j' hj' he => by have := pl.inj j' b i he hi; omega) (mp ho) hop hbit
  have hag2 := againO_mem hmem hag
  have szm : (ops.map (trOper P nt ops)).size = ops.size := by simp
  have keep : ∀ p, p ∈ (trOper P nt ops o).reads → T.get p (st b).fr = T.get p (st j).fr := by
    intro p hp
    refine ru.keep pl b (by omega) hbN fun j'' i'' o'' g1 g2 hi'' ho'' hd'' => ?_
    by_cases e : i'' = i2
    · subst e
      rw [ho] at ho''; simp only [Option.some.injEq] at ho''; subst ho''
      rw [hd] at hd''; simp only [Option.some.injEq] at hd''; subst hd''
      exact hdr hp
    · have := hall i'' p (by rw [szm]; exact pl.lt _ _ hi'') e (by rw [mp ho'']; exact hd'') (by unfold AOper.names; exact List.mem_append_right _ hp)
      obtain ⟨j3, g3, g4⟩ := pl.lin j i2 i'' hi2 this
      have := pl.inj j3 j'' i'' g4 hi''
      omega
  obtain ⟨g, b', hg, hdd, e1, e2, hw', hs⟩ := stepO_inv (ru.step j i2 o (by omega) hi2 ho)
  have hval : T.get d (st (j + 1)).fr = some v := by
    rw [e2] at hw
    rw [hw] at hw'
    simp only [Option.some.injEq] at hw'; subst hw'
    rcases hs with ⟨h, _⟩ | ⟨_, aop, ht, e3, hs⟩
    · simp at h
    · rw [hop] at e3; subst e3
      simp only [evOp, evOpC, hev, ob_some, Option.some.injEq, Out.normal.injEq] at hs
      rw [← hs]
      show T.get d (putD (o.dst.map posOf) v (st j).fr) = some v
      rw [get_putD, ← e1, if_pos hd]
  have hval' : T.get d (st b).fr = some v := by
    rw [← hval]
    refine ru.keep pl b (by omega) hbN fun j'' i'' o'' g1 g2 hi'' ho'' hd'' => ?_
    by_cases e : i'' = i2
    · subst e; have := pl.inj j'' j i'' hi'' hi2; omega
    · have := hall i'' d (by rw [szm]; exact pl.lt _ _ hi'') e (by rw [mp ho'']; exact hd'') (by unfold AOper.names; rw [hd]; simp)
      obtain ⟨j3, g3, g4⟩ := pl.lin j i2 i'' hi2 this
      have := pl.inj j3 j'' i'' g4 hi''
      omega
  have hgw : wantedA (trOper P nt ops o).guard (st b).fr = some true := by
    rw [← hw]
    cases hgd : (trOper P nt ops o).guard with
    | none => rfl
    | some pw =>
      obtain ⟨p, wt⟩ := pw
      have : T.get p (st b).fr = T.get p (st j).fr := keep p (by unfold AOper.reads; rw [hgd]; simp [guardL])
      simp only [wantedA, this]
  have cg : ∀ H, evL q (st j).fr H = evL q (st b).fr H := fun H => by
    refine (evL_congr fun x hx => ?_).symm
    cases x with
    | c v => rfl
    | t p => exact keep p (by unfold AOper.reads; rw [hop]; exact List.mem_append_left _ (List.mem_flatMap.2 ⟨_, hx, by simp [Opd.tmp]⟩))
  rcases hag2 with h1 | ⟨qe, rfl, hdj⟩
  · have h2 := again1_true h1 hgw hval'
    rw [← h2]
    exact cg h'
  · obtain ⟨u, hu⟩ := hae qe rfl
    have h0 := iv.load j i2 o q v hj hi2 ho hnS hw hop hev
    rw [cg, evL_disj hdj hu, ← cg]; exact h0

theorem count_set : ∀ {l : List Bool} {i : Nat}, l[i]? = some false → (l.set i true).count false + 1 = l.count false
  | [], i, h => by simp at h
  | x :: l, 0, h => by
    simp only [List.getElem?_cons_zero, Option.some.injEq] at h; subst h
    simp
  | x :: l, i + 1, h => by
    have := count_set (l := l) (i := i) (by simpa using h)
    simp only [List.set_cons_succ, List.count_cons]
    omega

theorem count_zero {l : List Bool} (h : l.count false = 0) {i : Nat} (hi : i < l.length) : l[i]? = some true := by
  have : false ∉ l := List.count_eq_zero.1 h
  rw [List.getElem?_eq_getElem hi]
  cases hb : l[i] with
  | true => rfl
  | false => exact absurd (hb ▸ List.getElem_mem hi) this

theorem Inv.done (pl : Plan P nt ops bef c) (ru : Runs P nt ops call c re N st out) (hnt : B.nt = nt) (iv : Inv P nt ops bef c N st B S φ a cs w b) (hS : ∀ k, k < ops.size → S k) : OutR B out .normal a cs w := by
  have hall : ∀ j, j < c.length → j < b := by
    intro j hj
    have h1 : c[j]? = some c[j] := List.getElem?_eq_getElem hj
    exact iv.low j _ h1 (hS _ (pl.lt _ _ h1))
  have hb := iv.ble
  have hN := ru.le
  rcases ru.fin with ⟨h1, rfl⟩ | ⟨h1, _⟩
  · have hbN : b = N := by
      rcases Nat.lt_or_ge b N with h | h
      · exact absurd (hall b (by omega)) (by omega)
      · omega
    subst hbN
    refine ⟨rfl, φ, ⟨iv.rel.gb.1, by rw [hnt]; exact iv.size, fun t v hv => ?_⟩, iv.rel, iv.ext, iv.df, iv.cs, iv.dd⟩
    refine iv.tmp t v b (Nat.le_refl _) (fun j' i' o' hi' ho' hd' => ?_) hv
    have : j' < c.length := by
      rcases Nat.lt_or_ge j' c.length with h | h
      · exact h
      · rw [List.getElem?_eq_none h] at hi'; simp at hi'
    exact ⟨fun _ => hS _ (pl.lt _ _ hi'), fun _ => by omega⟩
  · exact absurd (hall N h1) (by omega)

theorem Runs.effN (pl : Plan P nt ops bef c) (ru : Runs P nt ops call c re N st out) (hN : N < c.length) (hi : c[N]? = some i) (ho : ops[i]? = some o) : isEff (trOper P nt ops o).op = true := by
  rcases ru.fin with ⟨h1, _⟩ | ⟨_, hno, hs⟩
  · omega
  · obtain ⟨g, b, hg, hd, e1, e2, hw, hs⟩ := stepO_inv (hs i o hi ho)
    rcases hs with ⟨_, h⟩ | ⟨_, aop, ht, e3, hs⟩
    · exact absurd h (hno _)
    · rw [e3]
      cases hef : isEff aop with
      | true => rfl
      | false =>
        cases aop <;> simp [isEff] at hef <;> simp only [evOp, evOpC] at hs <;> (obtain ⟨v, hv, hs⟩ := ob_eq hs; simp only [Option.some.injEq] at hs; exact absurd hs.symm (hno _))

noncomputable def outD (dl : List Pos) (o : Out) : Out := match o with | .panic c s => .panic c (bif !(noDf s.df) then ⟨delL dl s.fr, s.h, s.df, s.u⟩ else s) | o => o
theorem outX_true (L : List AOper) (o : Out) : outX true L o = outD (dstL L) o := by cases o <;> rfl
theorem outD_ok {B : Base} {dl : List Pos} {c : Chain} {s : St} {ch : List PanicEntry} {e : Exit} {a : Act} {cs : List Frame} {w : World} {φ : Phi} (he : e = .panic ch) (h1 : ChRel φ ch c) (h2 : Rel B.w0 φ s.h w) (h3 : Ext B.φ B.h B.w φ s.h w) (h4 : DfRel φ a.defers s.df) (h5 : CsR φ B.cs s.u cs) (h6 : B.D = false ↔ s.u = .no) (h7 : s.df ≠ [] → FrRel φ B.nt a.tmps (delL dl s.fr)) :
    OutR B (outD dl (.panic c s)) e a cs w := by
  cases hd : !(noDf s.df) with
  | true => rw [show outD dl (.panic c s) = .panic c ⟨delL dl s.fr, s.h, s.df, s.u⟩ from by unfold outD; simp only [hd, cond_true]]; exact ⟨ch, φ, he, h1, h2, h3, h4, h5, h6, h7⟩
  | false =>
    rw [show outD dl (.panic c s) = .panic c s from by unfold outD; simp only [hd, cond_false]]
    refine ⟨ch, φ, he, h1, h2, h3, h4, h5, h6, fun hne => ?_⟩
    cases hs : s.df with
    | nil => exact absurd hs hne
    | cons x l => rw [hs] at hd; simp [noDf] at hd
theorem outD_normal {B : Base} {dl : List Pos} {out : Out} {a : Act} {cs : List Frame} {w : World} (h : OutR B out .normal a cs w) : OutR B (outD dl out) .normal a cs w := by
  cases out with
  | panic c s => obtain ⟨_, _, h, _⟩ := h; simp at h
  | _ => exact h
theorem Inv.one (hc : CallOk P B.w0 call) (hnt : B.nt = nt) (pl : Plan P nt ops bef c) (ru : Runs P nt ops call c re N st out)
    (hre : ∀ (j i : Nat) (o : Oper), c[j]? = some i → ops[i]? = some o → isEff (trOper P nt ops o).op = true → rechecks (ops.map (trOper P nt ops)) bef i c = some (re j))
    {dl : List Pos} (hdl : ∀ (i : Nat) (o : Oper) (d : Pos), ops[i]? = some o → (trOper P nt ops o).dst = some d → d ∈ dl) (iv : Inv P nt ops bef c N st B S φ a cs w b) (hbe : b < N → ∃ (i : Nat) (o : Oper), c[b]? = some i ∧ ops[i]? = some o ∧ isEff (trOper P nt ops o).op = true)
    (ho : ops[i]? = some o) (hnS : ¬ S i) (hr : ∀ k, (bef i).testBit k = true → S k) {K : Act → World → Prop} (hK : ∀ φ' a' w' b', Inv P nt ops bef c N st B (fun k => S k ∨ k = i) φ' a' cs w' b' → K a' w') :
    wpOp P ops (fun e a w => OutR B (outD dl out) e a cs w) i K a w := by
  have hlt : i < ops.size := by
    rcases Nat.lt_or_ge i ops.size with h' | h'
    · exact h'
    · rw [Array.getElem?_eq_none h'] at ho; simp at ho
  obtain ⟨j, hi⟩ := pl.mem i hlt
  have hjc : j < c.length := by
    rcases Nat.lt_or_ge j c.length with h' | h'
    · exact h'
    · rw [List.getElem?_eq_none h'] at hi; simp at hi
  have hbN := iv.ble
  have hNc := ru.le
  have hjb : j ≤ b := by
    rcases Nat.lt_or_ge b c.length with h | h
    · obtain ⟨ib, ob, h1, h2⟩ := pl.get h
      have hef : isEff (trOper P nt ops ob).op = true := by
        rcases Nat.lt_or_ge b N with h' | h'
        · obtain ⟨ib', ob', g1, g2, g3⟩ := hbe h'
          rw [h1] at g1; simp only [Option.some.injEq] at g1; subst g1
          rw [h2] at g2; simp only [Option.some.injEq] at g2; subst g2
          exact g3
        · have : b = N := by omega
          subst this
          exact ru.effN pl h h1 h2
      exact iv.upto pl hi hr h1 h2 hef
    · omega
  have hjN : j ≤ N := by omega
  obtain ⟨hρ, hcong⟩ := iv.opds pl hi ho hnS hr hjN
  have hreads := iv.reads pl hi ho hnS hr hjN
  have hwant : ∀ {g : Option (Pos × Bool)} {bb : Bool}, guardOf ops o = some g → (trOper P nt ops o).guard = g → wantedA g (st j).fr = some bb → Region.wanted o (yielded ops a.tmps) = bb := by
    intro g bb hg e2 hw
    refine wanted_ok (a := a) hg (fun d want v hgd hv => hreads d v ?_ hv) hw
    unfold AOper.reads; rw [e2, hgd]; simp [guardL]
  unfold wpOp
  simp only [ho]
  cases hef : isEff (trOper P nt ops o).op with
  | false =>
    have hjb' : j < b := by
      rcases Nat.lt_or_ge j b with h | h
      · exact h
      · have : j = b := by omega
        subst this
        rcases Nat.lt_or_ge j N with h' | h'
        · obtain ⟨ib', ob', g1, g2, g3⟩ := hbe h'
          rw [hi] at g1; simp only [Option.some.injEq] at g1; subst g1
          rw [ho] at g2; simp only [Option.some.injEq] at g2; subst g2
          rw [hef] at g3; simp at g3
        · have : j = N := by omega
          subst this
          have := ru.effN pl hjc hi ho
          rw [hef] at this; simp at this
    obtain ⟨g, bb, hg, hd, e1, e2, hw, hs⟩ := stepO_inv (ru.step j i o (by omega) hi ho)
    rw [hwant hg e2 hw]
    rcases hs with ⟨rfl, hs⟩ | ⟨rfl, aop, ht, e3, hs⟩
    · simp only [Bool.false_eq_true, if_false]
      simp only [Out.normal.injEq] at hs
      exact hK φ _ w b (iv.low_step pl ru hi ho hnS hr hjb' (.refl _) iv.rel (Nat.le_refl _) (.tup _ _ .nil) (by rw [hs, e1]) e1 hd fun β h => .inl h)
    · simp only [if_true]
      left
      unfold Oper.wp
      rw [e3] at hef hcong
      cases aop <;> simp [isEff] at hef
      case p q =>
        simp only [evOp, evOpC] at hs
        obtain ⟨v, hv, hs⟩ := ob_eq hs
        simp only [Option.some.injEq, Out.normal.injEq] at hs
        obtain ⟨u, w', h1, h2, h3⟩ := evP_ok (P := P) (w := w) hρ o ht (by rw [evP_congr hcong]; exact hv)
        rw [h1, Oper.upon_value]
        exact hK φ _ w' b (iv.low_step pl ru hi ho hnS hr hjb' (.refl _) (h3.rel iv.rel) (by rw [h3.heap]; exact Nat.le_refl _) h2 (by rw [← hs, e1]) e1 hd fun β h => .inl h)
      case a q =>
        simp only [evOp, evOpC] at hs
        obtain ⟨r, hrr, hs⟩ := ob_eq hs
        simp only [Option.some.injEq, Out.normal.injEq] at hs
        obtain ⟨k, vk⟩ := r
        obtain ⟨p1, p2, p3⟩ := iv.pend j i o k vk q hjb' hi ho hnS (by rw [e2]; exact hw) e3 hrr
        have hal := ru.alloc (by omega) hi ho (by rw [e2]; exact hw) e3 hrr
        obtain ⟨u, w', l, h1, h2, h3, h4, h5⟩ := (evA_ok iv.rel hρ o ht (by rw [evA_congr hcong]; exact hrr)).late iv.rel p1 p3 p2
        rw [h1, Oper.upon_value]
        refine hK _ _ w' b (iv.low_step pl ru hi ho hnS hr hjb' h5 h3 h4 h2 (by rw [← hs, e1]) e1 hd fun β h => ?_)
        by_cases e : β = (st j).h.nx
        · exact .inr ⟨e, hal⟩
        · exact .inl (by simp [Phi.add, e, h])
      case l q =>
        simp only [evOp, evOpC] at hs
        obtain ⟨v, hv, hs⟩ := ob_eq hs
        simp only [Option.some.injEq, Out.normal.injEq] at hs
        have hv' := iv.load j i o q v hjb' hi ho hnS (by rw [e2]; exact hw) e3 hv
        obtain ⟨u, h1, h2⟩ := evL_ok iv.rel hρ o ht (by rw [evL_congr hcong]; exact hv')
        rw [h1, Oper.upon_value]
        exact hK φ _ w b (iv.low_step pl ru hi ho hnS hr hjb' (.refl _) iv.rel (Nat.le_refl _) h2 (by rw [← hs, e1]) e1 hd fun β h => .inl h)
  | true =>
    have hj : j = b := by
      rcases Nat.lt_or_ge j b with h | h
      · exact absurd (iv.effs j i o h hi ho hef) hnS
      · omega
    subst hj
    have hnr := pl.norec i o ho
    rcases Nat.lt_or_ge j N with hjN' | hjN'
    · obtain ⟨g, bb, hg, hd, e1, e2, hw, hs⟩ := stepO_inv (ru.step j i o hjN' hi ho)
      rw [hwant hg e2 hw]
      rcases hs with ⟨rfl, hs⟩ | ⟨rfl, aop, ht, e3, hs⟩
      · simp only [Bool.false_eq_true, if_false]
        simp only [Out.normal.injEq] at hs
        have hh : (st (j + 1)).h = (st j).h := by rw [hs]
        have := iv.eff_step pl ru hi ho hnS hr hjN' (φ' := φ) (w' := w) (ext' := by rw [hh]; exact .refl _ _ _) (by rw [hh]; exact iv.rel) (.tup #[] [] .nil) (ds := a.defers) (by rw [hs]; exact iv.df) (by rw [hs, e1]) e1 hd
          (fun j2 i2 o2 q v g1 g2 g3 g4 g5 g6 g7 => by rw [hh]; exact iv.load j2 i2 o2 q v g1 g2 g3 g4 g5 g6 g7)
        exact hK φ _ w _ this
      · simp only [if_true]
        left
        unfold Oper.wp
        rw [e3] at hcong hnr
        have hef' : isEff aop = true := by rw [← e3]; exact hef
        rcases evOp_eff (o := ⟨o.dst.map posOf, aop, g, re j⟩) hef' hnr hs with ⟨v, h', df', h1, hag, h2⟩ | ⟨c', h', h1, h2⟩
        · simp only [Out.normal.injEq] at h2
          refine eff_upon hc iv.rel hρ iv.df o ht (by rw [evEff_congr hcong]; exact h1) ?_ (by intro ch c h' φ' w' e; simp at e)
          intro v' av h'' df'' φ' w' ds' e g1 g2 g3 g4
          simp only [Res.ok.injEq] at e; obtain ⟨rfl, rfl, rfl⟩ := e
          have hh : (st (j + 1)).h = h' := by rw [h2]
          exact hK φ' _ w' _ (iv.eff_step pl ru hi ho hnS hr hjN' (ext' := by rw [hh]; exact g3) (by rw [hh]; exact g2) g1 (by rw [h2]; exact g4) (by rw [h2, e1]) e1 hd
            (by rw [hh]; exact iv.reload pl ru hi hr (hre j i o hi ho hef) (fun q e => by
              subst e
              obtain ⟨r, hr1, hr2⟩ := ob_eq (show (ob (evE q (st j).fr (st j).h) fun r => some (Res.ok r.1 r.2 (st j).df)) = some (.ok v h' df') from h1)
              simp only [Option.some.injEq, Res.ok.injEq] at hr2
              obtain ⟨_, rfl, _⟩ := hr2
              exact ⟨r.1, hr1⟩) hag))
        · simp at h2
    · have hjN2 : j = N := by omega
      subst hjN2
      rcases ru.fin with ⟨h1, _⟩ | ⟨_, hno, hs⟩
      · omega
      · obtain ⟨g, bb, hg, hd, e1, e2, hw, hs⟩ := stepO_inv (hs i o hi ho)
        rw [hwant hg e2 hw]
        rcases hs with ⟨rfl, hs⟩ | ⟨rfl, aop, ht, e3, hs⟩
        · exact absurd hs (hno _)
        · simp only [if_true]
          left
          unfold Oper.wp
          rw [e3] at hcong hnr
          have hef' : isEff aop = true := by rw [← e3]; exact hef
          rcases evOp_eff (o := ⟨o.dst.map posOf, aop, g, re j⟩) hef' hnr hs with ⟨v, h', df', h1, hag, h2⟩ | ⟨c', h', h1, h2⟩
          · exact absurd h2 (hno _)
          · refine eff_upon hc iv.rel hρ iv.df o ht (by rw [evEff_congr hcong]; exact h1) (by intro v av h' df' φ' w' ds' e; simp at e) ?_
            intro ch c'' h'' φ' w' e g1 g2 g3
            simp only [Res.pan.injEq] at e; obtain ⟨rfl, rfl⟩ := e
            rw [h2]
            refine outD_ok rfl g1 g2 (iv.ext.trans g3) (iv.df.mono g3.le) (iv.cs.mono g3.le) iv.dd fun _ => ⟨(iv.rel.gb.1).trans g3.le, by rw [hnt]; exact iv.size, fun t x hx => ?_⟩
            obtain ⟨hx1, hx2⟩ := delL_get _ _ _ _ hx
            exact (iv.tmp t x j hjN (fun j' i' o' _ ho' hd' => absurd (hdl i' o' _ ho' hd') hx1) hx2).mono g3.le
end
end Go.Proofs.YtmoabbfdehaenaaGreatDoor.Ev

namespace Go.Proofs.YtmoabbfdehaenaaGreatDoor.Ev
open Go
variable [Rho]
section
variable {P : Program} {nt : Nat} {ops : Array Oper} {bef : Nat → Nat} {c : List Nat} {call : CallF} {re : Nat → List Re} {N : Nat} {st : Nat → St} {out : Out}
variable {B : Base} {φ φ' : Phi} {s : St} {a : Act} {cs : List Frame} {w w' : World}

theorem draw_any (hc : CallOk P B.w0 call) (hnt : B.nt = nt) (pl : Plan P nt ops bef c) (ru : Runs P nt ops call c re N st out)
    (hre : ∀ (j i : Nat) (o : Oper), c[j]? = some i → ops[i]? = some o → isEff (trOper P nt ops o).op = true → rechecks (ops.map (trOper P nt ops)) bef i c = some (re j))
    {dl : List Pos} (hdl : ∀ (i : Nat) (o : Oper) (d : Pos), ops[i]? = some o → (trOper P nt ops o).dst = some d → d ∈ dl) : ∀ (fuel : Nat) (listed : Array Bool) (φ : Phi) (a : Act) (w : World) (b : Nat), listed.size = ops.size → listed.toList.count false ≤ fuel →
    Inv P nt ops bef c N st B (fun k => listed.getD k false = true) φ a cs w b → (b < N → ∃ (i : Nat) (o : Oper), c[b]? = some i ∧ ops[i]? = some o ∧ isEff (trOper P nt ops o).op = true) →
    wpAny P .any ops (fun e a w => OutR B (outD dl out) e a cs w) fuel listed a w := by
  have getD_lt : ∀ {l : Array Bool} {k : Nat}, k < l.size → l.getD k false = l.getD k true := by intro l k h; simp [Array.getD, h]
  have allOf : ∀ {listed : Array Bool}, listed.size = ops.size → Region.ready .any ops listed = [] → ∀ k, k < ops.size → listed.getD k false = true := by
    intro listed hsz hr k
    induction k using Nat.strongRecOn with
    | _ k ih =>
      intro hk
      cases hb : listed.getD k false with
      | true => rfl
      | false =>
        have : k ∈ Region.ready .any ops listed := by
          rw [mem_ready]
          refine ⟨by rw [← getD_lt (by omega)]; exact hb, ops[k], by simp [hk], fun e he hbd => ?_⟩
          have := pl.edge k ops[k] e (by simp [hk]) he hbd
          exact ih e.on this (by omega)
        rw [hr] at this; simp at this
  intro fuel
  induction fuel with
  | zero =>
    intro listed φ a w b hsz hcnt iv hbe
    have hall : ∀ k, k < ops.size → listed.getD k false = true := by
      intro k hk
      have := count_zero (Nat.le_zero.1 hcnt) (i := k) (by simpa [hsz] using hk)
      simp at this
      simp [Array.getD_eq_getD_getElem?, this]
    refine ⟨?_, outD_normal (iv.done pl ru hnt hall)⟩
    rw [List.eq_nil_iff_forall_not_mem]
    intro k hk
    obtain ⟨h1, o, h2, _⟩ := mem_ready.1 hk
    have hlt : k < ops.size := by
      rcases Nat.lt_or_ge k ops.size with h' | h'
      · exact h'
      · rw [Array.getElem?_eq_none h'] at h2; simp at h2
    have := hall k hlt
    rw [getD_lt (by omega), h1] at this; simp at this
  | succ fuel ih =>
    intro listed φ a w b hsz hcnt iv hbe
    refine ⟨fun hr => outD_normal (iv.done pl ru hnt (allOf hsz hr)), fun i hi => ?_⟩
    obtain ⟨h1, o, ho, hall⟩ := mem_ready.1 hi
    have hlt : i < ops.size := by
      rcases Nat.lt_or_ge i ops.size with h' | h'
      · exact h'
      · rw [Array.getElem?_eq_none h'] at ho; simp at ho
    have hnS : ¬ (listed.getD i false = true) := by rw [getD_lt (by omega), h1]; simp
    have hr : ∀ k, (bef i).testBit k = true → listed.getD k false = true := by
      intro k hk
      obtain ⟨o', e, g1, g2, g3, g4⟩ := pl.befs i k hk
      rw [ho] at g1; simp only [Option.some.injEq] at g1; subst g1
      have := hall e g2 g3
      rcases g4 with rfl | g4
      · exact this
      · exact iv.closed _ _ this g4
    refine iv.one hc hnt pl ru hre hdl hbe ho hnS hr fun φ' a' w' b' iv' => ?_
    obtain ⟨b'', iv'', hbe''⟩ := iv'.advance pl ru _ b' rfl
    have hS : (fun k => listed.getD k false = true ∨ k = i) = (fun k => (listed.setIfInBounds i true).getD k false = true) := by
      funext k
      by_cases e : k = i
      · subst e
        have : (listed.setIfInBounds k true).getD k false = true := by simp [Array.getD, hsz, hlt]
        simp [this]
      · rw [getD_set_ne false (Ne.symm e)]; simp [e]
    rw [hS] at iv''
    refine ih _ φ' a' w' b'' (by simpa using hsz) ?_ iv'' hbe''
    have hf : listed.toList[i]? = some false := by
      have hl : i < listed.size := by omega
      have hd : listed.getD i false = listed[i] := by simp [Array.getD, hl]
      rw [hd] at hnS
      simp [hl]
      simpa using hnS
    have := count_set hf
    rw [Array.toList_setIfInBounds]; omega

theorem allSome_get {α : Type} : ∀ {l : List (Option α)} {r : List α}, allSome l = some r → l = r.map some
  | [], r, h => by simp [allSome] at h; subst h; rfl
  | none :: l, r, h => by simp [allSome] at h
  | some x :: l, r, h => by
    simp only [allSome] at h
    split at h
    · rename_i r' hr
      simp only [Option.some.injEq] at h; subst h
      rw [allSome_get hr]; rfl
    · simp at h

theorem runs_of : ∀ {L : List AOper} {s : St} {out : Out}, evOps call L s = some out → ∃ (N : Nat) (st : Nat → St), st 0 = s ∧ N ≤ L.length ∧ (∀ (j : Nat) (o : AOper), j < N → L[j]? = some o → stepO call o (st j) = some (.normal (st (j + 1)))) ∧
    ((N = L.length ∧ out = .normal (st N)) ∨ (N < L.length ∧ (∀ s', out ≠ .normal s') ∧ ∀ o, L[N]? = some o → stepO call o (st N) = some out))
  | [], s, out, h => by
    rw [evOps_nil, Option.some.injEq] at h; subst h
    exact ⟨0, fun _ => s, rfl, Nat.le_refl _, fun j o h => absurd h (by omega), .inl ⟨rfl, rfl⟩⟩
  | o :: L, s, out, h => by
    rw [evOps_cons] at h
    obtain ⟨r, hr, h⟩ := ob_eq h
    have stop : (∀ s', r ≠ .normal s') → r = out → ∃ (N : Nat) (st : Nat → St), st 0 = s ∧ N ≤ (o :: L).length ∧ (∀ (j : Nat) (o' : AOper), j < N → (o :: L)[j]? = some o' → stepO call o' (st j) = some (.normal (st (j + 1)))) ∧
        ((N = (o :: L).length ∧ out = .normal (st N)) ∨ (N < (o :: L).length ∧ (∀ s', out ≠ .normal s') ∧ ∀ o', (o :: L)[N]? = some o' → stepO call o' (st N) = some out)) := by
      intro hno he
      subst he
      refine ⟨0, fun _ => s, rfl, by simp, fun j o' hj => absurd hj (by omega), .inr ⟨by simp, hno, fun o' ho' => ?_⟩⟩
      simp only [List.getElem?_cons_zero, Option.some.injEq] at ho'; subst ho'; exact hr
    cases r with
    | normal s1 =>
      obtain ⟨N, st, h1, h2, h3, h4⟩ := runs_of h
      refine ⟨N + 1, fun j => match j with | 0 => s | j + 1 => st j, rfl, by simp; omega, fun j o' hj ho' => ?_, ?_⟩
      · cases j with
        | zero =>
          simp only [List.getElem?_cons_zero, Option.some.injEq] at ho'; subst ho'
          simp only; rw [h1]; exact hr
        | succ j => exact h3 j o' (by omega) (by simpa using ho')
      · rcases h4 with ⟨g1, g2⟩ | ⟨g1, g2, g3⟩
        · exact .inl ⟨by simp [g1], g2⟩
        · exact .inr ⟨by simpa using g1, g2, fun o' ho' => g3 o' (by simpa using ho')⟩
    | exit id s1 => exact stop (by simp) (by simpa using h)
    | ret s1 => exact stop (by simp) (by simpa using h)
    | panic ch s1 => exact stop (by simp) (by simpa using h)

theorem dstL_mem {L : List AOper} {o : AOper} {d : Pos} (h : o ∈ L) (hd : o.dst = some d) : d ∈ dstL L := by
  induction L with
  | nil => simp at h
  | cons x L ih =>
    show d ∈ (match x.dst with | some p => p :: dstL L | none => dstL L)
    rcases List.mem_cons.1 h with rfl | h
    · rw [hd]; simp
    · have := ih h
      split <;> simp [this]
theorem draw_wp (hc : CallOk P B.w0 call) (hnt : B.nt = nt) {L : List AOper} (hL : trDraw P nt ops = some L) (sr : SR B φ s a cs w) (he : evOps call L s = some out)
    : wpAny P .any ops (fun e a w => OutR B (outX true L out) e a cs w) ops.size (Array.replicate ops.size false) a { w with drawn := w.drawn + 1 } := by
  unfold trDraw at hL
  simp only at hL
  split at hL
  case isFalse => simp at hL
  rename_i hok
  have pl := plan_of hok
  generalize hcdef : asap ops.size _ _ ops.size 0 [] = c at hL hok pl
  have hLm := allSome_get hL
  have mp : ∀ {i : Nat} {o : Oper}, ops[i]? = some o → (ops.map (trOper P nt ops))[i]? = some (trOper P nt ops o) := by intro i o h; simp [h]
  have hlen : L.length = c.length := by
    have := congrArg List.length hLm
    simpa using this.symm
  obtain ⟨N, st, h0, hN, hstep, hfin⟩ := runs_of he
  let re : Nat → List Re := fun j => ((L[j]?).map (·.re)).getD []
  have hget : ∀ (j i : Nat) (o : Oper), c[j]? = some i → ops[i]? = some o → L[j]? = some { trOper P nt ops o with re := re j } ∧ (isEff (trOper P nt ops o).op = true → rechecks (ops.map (trOper P nt ops)) (fun i => (Region.before ops).getD i 0) i c = some (re j)) := by
    intro j i o hi ho
    have hj : j < L.length := by
      rw [hlen]
      rcases Nat.lt_or_ge j c.length with h' | h'
      · exact h'
      · rw [List.getElem?_eq_none h'] at hi; simp at hi
    have h1 := congrArg (fun l => l[j]?) hLm
    simp only [List.getElem?_map, hi, Option.map_some, mp ho] at h1
    have hLj : L[j]? = some L[j] := List.getElem?_eq_getElem hj
    rw [hLj] at h1 ⊢
    have hrej : re j = L[j].re := by simp only [re, hLj, Option.map_some, Option.getD_some]
    simp only [Option.map_some, Option.some.injEq] at h1
    split at h1
    · obtain ⟨r, hr, h1⟩ := Option.map_eq_some_iff.1 h1
      rw [← h1] at hrej ⊢
      simp only at hrej
      exact ⟨by rw [hrej], fun _ => by rw [hr, hrej]⟩
    · rename_i hne
      simp only [Option.some.injEq] at h1
      rw [← h1] at hrej ⊢
      refine ⟨by rw [hrej], fun h => absurd h hne⟩
  have ru : Runs P nt ops call c re N st out := by
    refine ⟨by omega, fun j i o hj hi ho => hstep j _ hj (hget j i o hi ho).1, ?_⟩
    rcases hfin with ⟨h1, h2⟩ | ⟨h1, h2, h3⟩
    · exact .inl ⟨by omega, h2⟩
    · exact .inr ⟨by omega, h2, fun i o hi ho => h3 _ (hget N i o hi ho).1⟩
  have sd := Same.drew w
  have iv : Inv P nt ops (fun i => (Region.before ops).getD i 0) c N st B (fun k => (Array.replicate ops.size false).getD k false = true) φ a cs { w with drawn := w.drawn + 1 } 0 := by
    have hF : ∀ k, ¬ ((Array.replicate ops.size false).getD k false = true) := by
      intro k
      simp [Array.getD_eq_getD_getElem?, Array.getElem?_replicate]
      split <;> simp
    refine ⟨Nat.zero_le _, fun i k h => absurd h (hF i), fun j i _ h => absurd h (hF i), fun j i o h => absurd h (by omega), by rw [h0]; exact sd.rel sr.rel, by rw [h0]; exact sr.ext.trans sd.ext, by rw [h0]; exact sr.df, by rw [h0]; exact sr.cs, by rw [h0]; exact sr.dd, by rw [← hnt]; exact sr.fr.size, by rw [h0]; exact sr.ext.nx, ?_, ?_, fun j i o k vk q h => absurd h (by omega), fun j i o q v h => absurd h (by omega)⟩
    · intro j1 j2 g1 g2
      have e1 : j1 = 0 := by omega
      have e2 : j2 = 0 := by omega
      rw [e1, e2]; exact Nat.le_refl _
    · intro t v j hj hcond hv
      rw [ru.keep pl j (Nat.zero_le _) hj (fun j' i o g1 g2 hi ho hd => absurd ((hcond j' i o hi ho hd).1 g2) (hF i)), h0] at hv
      exact sr.fr.val t v hv
  obtain ⟨b', iv', hbe'⟩ := iv.advance pl ru _ 0 rfl
  have hdl : ∀ (i : Nat) (o : Oper) (d : Pos), ops[i]? = some o → (trOper P nt ops o).dst = some d → d ∈ dstL L := by
    intro i o d ho hd
    have hlt : i < ops.size := by
      rcases Nat.lt_or_ge i ops.size with h' | h'
      · exact h'
      · rw [Array.getElem?_eq_none h'] at ho; simp at ho
    obtain ⟨j, hj⟩ := pl.mem i hlt
    have hm := List.mem_of_getElem? (hget j i o hj ho).1
    exact dstL_mem hm hd
  rw [outX_true]
  refine draw_any hc hnt pl ru (fun j i o hi ho => (hget j i o hi ho).2) hdl _ _ φ a _ b' (by simp) ?_ iv' hbe'
  simp
theorem draw_region (hc : CallOk P B.w0 call) (hnt : B.nt = nt) (hP : P.follows .mixedOrders = true) {L : List AOper} (hL : trDraw P nt ops = some L) (sr : SR B φ s a cs w) (he : evOps call L s = some out)
    (id : Nat) : (Code.region id ops true).wp P (fun e a w => OutR B (outX true L out) e a cs w) a w :=
  wp_region_any hP (draw_wp hc hnt hL sr he)
end
end Go.Proofs.YtmoabbfdehaenaaGreatDoor.Ev

namespace Go.Proofs.YtmoabbfdehaenaaGreatDoor.Ev
open Go
variable [Rho]
section
variable {P : Program} {nt : Nat} {ops : Array Oper} {call : CallF} {out : Out}
variable {B : Base} {φ φ' : Phi} {s : St} {a : Act} {cs : List Frame} {w w' : World}

theorem evOps_app (call : CallF) : ∀ (L R : List AOper) (s : St), evOps call (L ++ R) s = ob (evOps call L s) fun r => match r with | .normal s' => evOps call R s' | r => some r
  | [], R, s => rfl
  | o :: L, R, s => by
    rw [List.cons_append, evOps_cons, evOps_cons]
    cases stepO call o s with
    | none => rfl
    | some r =>
      cases r with
      | normal s' => exact evOps_app call L R s'
      | _ => rfl
theorem wp_monoQ {o : Oper} {a : Act} {w : World} {K K' : Act → World → Prop} {Q Q' : Exit → Act → World → Prop} (h : ∀ a w, K a w → K' a w) (hQ : ∀ e a w, e ≠ .normal → Q e a w → Q' e a w) (hl : LetsOut Q → LetsOut Q') (hh : o.wp P a w K Q) : o.wp P a w K' Q' := by
  unfold Oper.wp at *
  generalize (execOp a.eval o).run P w = r at *
  cases r with
  | ok n w' =>
    cases n <;> simp only [Oper.upon] at hh ⊢ <;>
      first
        | exact h _ _ hh
        | exact Calls.mono hh (fun e w'' he => by cases e <;> first | exact h _ _ he | exact hQ _ _ _ (by simp) he | exact hl he)
        | exact Rows.mono hh (fun _ _ he => h _ _ he)
  | halt x w' => cases x <;> simp only [Oper.upon] at hh ⊢ <;> first | exact hQ _ _ _ (by simp) hh | exact hh
theorem wpAny_more {Q : Exit → Act → World → Prop} : ∀ (k : Nat) (listed : Array Bool) (a : Act) (w : World), wpAny P .any ops Q k listed a w → wpAny P .any ops Q (k + 1) listed a w
  | 0, listed, a, w, h => ⟨fun _ => h.2, fun i hi => by rw [h.1] at hi; simp at hi⟩
  | k + 1, listed, a, w, h => ⟨h.1, fun i hi => wpOp_mono (fun a w => wpAny_more k _ a w) (h.2 i hi)⟩
theorem wpAny_add {Q : Exit → Act → World → Prop} {k : Nat} {listed : Array Bool} {a : Act} {w : World} (h : wpAny P .any ops Q k listed a w) : ∀ j, wpAny P .any ops Q (k + j) listed a w
  | 0 => h
  | j + 1 => wpAny_more _ _ a w (wpAny_add h j)
theorem wpAny_pre {pre : Array Oper} {m n : Nat} (hn : ops.size = m + n) (hsz : pre.size = m) (hp : ∀ k, k < m → pre[k]? = ops[k]?)
    (hlin : ∀ (i : Nat) (o : Oper) (e : Edge), pre[i]? = some o → e ∈ o.after → Region.binds .any e = true → e.on < i)
    (hg : ∀ (i : Nat) (o : Oper) (j : Nat) (b : Bool), pre[i]? = some o → o.guard = some (j, b) → j < m)
    (hpost : ∀ (i : Nat) (o : Oper), m ≤ i → ops[i]? = some o → (∀ k, k < m → ∃ e ∈ o.after, Region.binds .any e = true ∧ e.on = k) ∨ (∃ e ∈ o.after, Region.binds .any e = true ∧ m ≤ e.on))
    {Q1 Q : Exit → Act → World → Prop} (hQ : ∀ e a w, e ≠ .normal → Q1 e a w → Q e a w) (hl : LetsOut Q1 → LetsOut Q)
    (hN : ∀ a w, Q1 .normal a w → wpAny P .any ops Q n (Array.replicate m true ++ Array.replicate n false) a w) :
    ∀ (fuel : Nat) (listed : Array Bool) (a : Act) (w : World), listed.size = m → wpAny P .any pre Q1 fuel listed a w → listed.toList.count false ≤ fuel → wpAny P .any ops Q (fuel + n) (listed ++ Array.replicate n false) a w := by
  have getL : ∀ (listed : Array Bool) (k : Nat) (b : Bool), listed.size = m → k < m → (listed ++ Array.replicate n false).getD k b = listed.getD k b := by
    intro listed k b hs hk
    simp only [Array.getD_eq_getD_getElem?]
    rw [Array.getElem?_append_left (by omega)]
  have getR : ∀ (listed : Array Bool) (k : Nat), listed.size = m → m ≤ k → (listed ++ Array.replicate n false).getD k false = false := by
    intro listed k hs hk
    simp only [Array.getD_eq_getD_getElem?]
    rw [Array.getElem?_append_right (by omega), Array.getElem?_replicate]
    split <;> rfl
  have getD_lt : ∀ {l : Array Bool} {k : Nat}, k < l.size → l.getD k false = l.getD k true := by intro l k h; simp [Array.getD, h]
  -- all of the beginning is done
  have full : ∀ (listed : Array Bool), listed.size = m → Region.ready .any pre listed = [] → listed = Array.replicate m true := by
    intro listed hs hr
    have hall : ∀ k, k < m → listed.getD k false = true := by
      intro k
      induction k using Nat.strongRecOn with
      | _ k ih =>
        intro hk
        cases hb : listed.getD k false with
        | true => rfl
        | false =>
          have : k ∈ Region.ready .any pre listed := by
            rw [mem_ready]
            refine ⟨by rw [← getD_lt (by omega)]; exact hb, pre[k], by simp [hsz, hk], fun e he hbd => ?_⟩
            have := hlin k pre[k] e (by simp [hsz, hk]) he hbd
            exact ih e.on this (by omega)
          rw [hr] at this; simp at this
    apply Array.ext
    · simp [hs]
    · intro i h1 h2
      have := hall i (by omega)
      simp only [Array.getD, h1, dite_true] at this
      simpa using this
  -- nothing behind it is ready before
  have later : ∀ (listed : Array Bool), listed.size = m → ∀ k, k < m → listed.getD k false = false → ∀ i ∈ Region.ready .any ops (listed ++ Array.replicate n false), i ∈ Region.ready .any pre listed := by
    intro listed hs k hk hkf i hi
    obtain ⟨h1, o, ho, hall⟩ := mem_ready.1 hi
    have him : i < m := by
      rcases Nat.lt_or_ge i m with h | h
      · exact h
      · rcases hpost i o h ho with g | ⟨e, he, hb, hge⟩
        · obtain ⟨e, he, hb, hon⟩ := g k hk
          have := hall e he hb
          rw [hon, getL listed k false hs hk, hkf] at this; simp at this
        · have := hall e he hb
          rw [getR listed e.on hs hge] at this; simp at this
    rw [getL listed i true hs him] at h1
    rw [mem_ready]
    refine ⟨h1, o, by rw [hp i him]; exact ho, fun e he hb => ?_⟩
    have := hall e he hb
    rcases Nat.lt_or_ge e.on m with h | h
    · rw [getL listed e.on false hs h] at this; exact this
    · rw [getR listed e.on hs h] at this; simp at this
  intro fuel
  induction fuel with
  | zero =>
    intro listed a w hs h _
    rw [full listed hs h.1, Nat.zero_add]
    exact hN a w h.2
  | succ fuel ih =>
    intro listed a w hs h hcnt
    by_cases hr : Region.ready .any pre listed = []
    · rw [full listed hs hr, Nat.add_comm (fuel + 1) n]
      exact wpAny_add (hN a w (h.1 hr)) _
    · obtain ⟨k, hk⟩ := List.exists_mem_of_ne_nil _ hr
      obtain ⟨hk1, ok, hk2, hk3⟩ := mem_ready.1 hk
      have hkm : k < m := by
        rcases Nat.lt_or_ge k m with h | h
        · exact h
        · rw [Array.getElem?_eq_none (by omega)] at hk2; simp at hk2
      have hkf : listed.getD k false = false := by rw [getD_lt (by omega)]; exact hk1
      have hne : Region.ready .any ops (listed ++ Array.replicate n false) ≠ [] := by
        intro e
        have : k ∈ Region.ready .any ops (listed ++ Array.replicate n false) := by
          rw [mem_ready]
          refine ⟨by rw [getL listed k true hs hkm]; exact hk1, ok, by rw [← hp k hkm]; exact hk2, fun e he hb => ?_⟩
          have := hlin k ok e hk2 he hb
          rw [getL listed e.on false hs (by omega)]
          exact hk3 e he hb
        rw [e] at this; simp at this
      rw [show fuel + 1 + n = (fuel + n) + 1 from by omega]
      refine ⟨fun e => absurd e hne, fun i hi => ?_⟩
      have hi' := later listed hs k hkm hkf i hi
      have hw := h.2 i hi'
      obtain ⟨hi1, oi, hi2, _⟩ := mem_ready.1 hi'
      have him : i < m := by
        rcases Nat.lt_or_ge i m with h | h
        · exact h
        · rw [Array.getElem?_eq_none (by omega)] at hi2; simp at hi2
      have hset : (listed ++ Array.replicate n false).setIfInBounds i true = listed.setIfInBounds i true ++ Array.replicate n false := by
        apply Array.ext_getElem?
        intro j
        rw [Array.getElem?_setIfInBounds, Array.getElem?_append, Array.getElem?_append, Array.getElem?_setIfInBounds, Array.size_setIfInBounds, Array.size_append]
        by_cases hj : j < listed.size
        · by_cases e : i = j
          · subst e; simp [hj]; omega
          · simp [hj, e]
        · have : i ≠ j := by omega
          simp [hj, this]
      have hcnt' : (listed.setIfInBounds i true).toList.count false ≤ fuel := by
        have hf : listed.toList[i]? = some false := by
          have hl : i < listed.size := by omega
          have hd : listed.getD i true = listed[i] := by simp [Array.getD, hl]
          rw [hd] at hi1
          simp [hl]
          simpa using hi1
        have := count_set hf
        rw [Array.toList_setIfInBounds]; omega
      have step : ∀ a w, wpAny P .any pre Q1 fuel (listed.setIfInBounds i true) a w → wpAny P .any ops Q (fuel + n) ((listed ++ Array.replicate n false).setIfInBounds i true) a w := by
        intro a w hh
        rw [hset]
        exact ih _ a w (by simpa using hs) hh hcnt'
      unfold wpOp at hw ⊢
      rw [← hp i him, hi2]
      rw [hi2] at hw
      simp only at hw ⊢
      have hwant : Region.wanted oi (yielded ops a.tmps) = Region.wanted oi (yielded pre a.tmps) := by
        unfold Region.wanted
        split
        · rfl
        · rename_i j b hgd
          have := hg i oi j b hi2 hgd
          unfold yielded
          rw [hp j this]
      rw [hwant]
      split
      · rename_i hw1
        rw [if_pos hw1] at hw
        exact hw.imp (wp_monoQ step hQ hl) (fun ⟨x, y⟩ => ⟨x, hl y⟩)
      · rename_i hw1
        rw [if_neg hw1] at hw
        exact step _ _ hw

theorem storeO_inv {n : Option Nat} {x y : AV} {h h' : HP} (hs : storeO n x y h = some h') : ∃ b o cs r, x = .ptr b o ∧ h.get b = some (.cells true cs) ∧ h' = h.put b (some (.cells true r)) ∧ ∀ h2 : HP, h2.get b = some (.cells true cs) → storeO n x y h2 = some (h2.put b (some (.cells true r))) := by
  have at_ : ∀ {b : Pos} {o : Nat} {vs : List AV} {h h' : HP}, storeAt b o vs h = some h' → ∃ cs r, h.get b = some (.cells true cs) ∧ h' = h.put b (some (.cells true r)) ∧ ∀ h2 : HP, h2.get b = some (.cells true cs) → storeAt b o vs h2 = some (h2.put b (some (.cells true r))) := by
    intro b o vs h h' hs
    unfold storeAt at hs
    obtain ⟨k, hk, hs⟩ := ob_eq hs
    split at hs
    · rename_i cs
      obtain ⟨h1, hs⟩ := bif_eq hs
      obtain ⟨r, hr, hs⟩ := ob_eq hs
      simp only [Option.some.injEq] at hs
      refine ⟨cs, r, hk, hs.symm, fun h2 hg => ?_⟩
      unfold storeAt
      rw [hg, ob_some]
      simp only [h1, cond_true, hr, ob_some]
    · simp at hs
  cases n with
  | none =>
    cases x with
    | ptr b o =>
      obtain ⟨cs, r, h1, h2, h3⟩ := at_ (show storeAt b o [y] h = some h' from hs)
      exact ⟨b, o, cs, r, rfl, h1, h2, h3⟩
    | _ => exact absurd (show (none : Option HP) = some h' from hs) (by simp)
  | some n =>
    cases x with
    | ptr b o =>
      cases y with
      | agg vs =>
        obtain ⟨h0, hs⟩ := bif_eq (show (bif Nat.beq (lenL vs) n then storeAt b o vs h else none) = some h' from hs)
        obtain ⟨cs, r, h1, h2, h3⟩ := at_ hs
        refine ⟨b, o, cs, r, rfl, h1, h2, fun h2 hg => ?_⟩
        show (bif Nat.beq (lenL vs) n then storeAt b o vs h2 else none) = _
        rw [h0]; exact h3 h2 hg
      | _ => exact absurd (show (none : Option HP) = some h' from hs) (by simp)
    | _ => exact absurd (show (none : Option HP) = some h' from hs) (by simp)
theorem SR.alike (sr : SR B φ s a cs w) {s' : St} (hf : ∀ p, T.get p s'.fr = T.get p s.fr) (hn : s'.h.nx = s.h.nx) (hh : ∀ b, s'.h.get b = s.h.get b) (hd : s'.df = s.df) (hu : s'.u = s.u) : SR B φ s' a cs w := by
  obtain ⟨fr, h, df, u⟩ := s
  obtain ⟨fr', h', df', u'⟩ := s'
  simp only at hd hu hf hn hh
  subst hd hu
  refine ⟨⟨sr.fr.gl, sr.fr.size, fun t x hx => sr.fr.val t x (by rw [← hf]; exact hx)⟩, ?_, ?_, sr.df, sr.cs, sr.dd⟩
  · exact ⟨sr.rel.os, sr.rel.tape, sr.rel.output, sr.rel.size, sr.rel.old, sr.rel.gb, fun b hb => by rw [hh]; rw [hn] at hb; exact sr.rel.wf b hb, fun b l hb => by rw [hn]; exact sr.rel.dom b l hb, fun b l k hb hk => sr.rel.ok b l k hb (by rw [← hh]; exact hk), fun b c l l' k k' h1 h2 h3 h4 => sr.rel.inj b c l l' k k' h1 h2 (by rw [← hh]; exact h3) (by rw [← hh]; exact h4)⟩
  · exact ⟨sr.ext.le, by rw [hn]; exact sr.ext.nx, sr.ext.sz, fun b hb hnn => let ⟨h1, h2⟩ := sr.ext.fa b hb hnn; ⟨h1, (hh b).trans h2⟩⟩
noncomputable def frS (fr : T AV) (d1 d2 : Pos) (v1 v2 : AV) (i j : Nat) (p : Pos) : Option AV := if 1 ≤ j ∧ p = d2 then some v2 else if 1 ≤ i ∧ p = d1 then some v1 else T.get p fr
noncomputable def hpS (h : HP) (b1 b2 : Pos) (r1 r2 : List AV) (i j : Nat) (b : Pos) : Option Blk := if 2 ≤ j ∧ b = b2 then some (.cells true r2) else if 2 ≤ i ∧ b = b1 then some (.cells true r1) else h.get b
structure At (s0 s : St) (d1 d2 : Pos) (v1 v2 : AV) (b1 b2 : Pos) (r1 r2 : List AV) (i j : Nat) : Prop where
  fr : ∀ p, T.get p s.fr = frS s0.fr d1 d2 v1 v2 i j p
  nx : s.h.nx = s0.h.nx
  hp : ∀ b, s.h.get b = hpS s0.h b1 b2 r1 r2 i j b
  df : s.df = s0.df
  u : s.u = s0.u
theorem opv_at {x : Opd} {fr fr' : T AV} (h : ∀ p, x = .t p → T.get p fr' = T.get p fr) : opv fr' x = opv fr x := by
  cases x with
  | t p => exact h p rfl
  | c v => rfl
theorem unnamed_ne {p q : Pos} {l : List Opd} (h : unnamed p l = true) (hx : Opd.t q ∈ l) : q ≠ p := by
  unfold unnamed at h
  rw [List.all_eq_true] at h
  have := h _ hx
  simpa using this
def listed4 (m i j : Nat) : Array Bool := Array.replicate m true ++ #[decide (1 ≤ i), decide (2 ≤ i), decide (1 ≤ j), decide (2 ≤ j)]
theorem listed4_get? (m i j k : Nat) : (listed4 m i j)[k]? = if k < m then some true else if k = m then some (decide (1 ≤ i)) else if k = m + 1 then some (decide (2 ≤ i)) else if k = m + 2 then some (decide (1 ≤ j)) else if k = m + 3 then some (decide (2 ≤ j)) else none := by
  unfold listed4
  by_cases h : k < m
  · rw [Array.getElem?_append_left (by simpa using h)]; simp [h]
  · rw [Array.getElem?_append_right (by simpa using (by omega : m ≤ k))]
    simp only [Array.size_replicate]
    rw [if_neg h]
    obtain ⟨q, rfl⟩ : ∃ q, k = m + q := ⟨k - m, by omega⟩
    rw [show m + q - m = q from by omega]
    match q with
    | 0 => simp
    | 1 => simp
    | 2 => simp
    | 3 => simp
    | q + 4 => simp
theorem listed4_get (m i j k : Nat) (d : Bool) : (listed4 m i j).getD k d = if k < m then true else if k = m then decide (1 ≤ i) else if k = m + 1 then decide (2 ≤ i) else if k = m + 2 then decide (1 ≤ j) else if k = m + 3 then decide (2 ≤ j) else d := by
  simp only [Array.getD_eq_getD_getElem?, listed4_get?]
  split
  · rfl
  · split
    · rfl
    · split
      · rfl
      · split
        · rfl
        · split <;> rfl
theorem listed4_size (m i j : Nat) : (listed4 m i j).size = m + 4 := by simp [listed4]
theorem listed4_set {m i j k : Nat} {i' j' : Nat} (h : ∀ q, q < m + 4 → (listed4 m i' j')[q]? = if q = k then some true else (listed4 m i j)[q]?) : (listed4 m i j).setIfInBounds k true = listed4 m i' j' := by
  apply Array.ext_getElem?
  intro q
  rw [Array.getElem?_setIfInBounds]
  by_cases hq : q < m + 4
  · rw [h q hq]
    by_cases e : k = q
    · subst e; simp [listed4_size, hq]
    · rw [if_neg e, if_neg (Ne.symm e)]
  · rw [Array.getElem?_eq_none (by rw [listed4_size]; omega), Array.getElem?_eq_none (by rw [listed4_size]; omega)]
    split
    · rename_i e
      rw [if_neg (by rw [listed4_size]; omega)]
    · rfl
def stO (n : Option Nat) (a x : Opd) : AOp := match n with | none => .e (.store a x) | some n => .e (.stores n a x)
theorem tailO_inv {o : AOper} {n : Option Nat} {a x : Opd} (h : tailO o = some (n, a, x)) : o.dst = none ∧ o.op = stO n a x ∧ o.guard = none := by
  unfold tailO at h
  split at h
  · simp only [Option.some.injEq, Prod.mk.injEq] at h; obtain ⟨rfl, rfl, rfl⟩ := h; exact ⟨rfl, rfl, rfl⟩
  · simp only [Option.some.injEq, Prod.mk.injEq] at h; obtain ⟨rfl, rfl, rfl⟩ := h; exact ⟨rfl, rfl, rfl⟩
  · simp at h
theorem tailP_inv {o : AOper} {d : Pos} {q : PO} (h : tailP o = some (d, q)) : o.dst = some d ∧ o.op = .p q ∧ o.guard = none := by
  unfold tailP at h
  split at h
  · simp only [Option.some.injEq, Prod.mk.injEq] at h; obtain ⟨rfl, rfl⟩ := h; exact ⟨rfl, rfl, rfl⟩
  · simp at h
theorem step_p {call : CallF} {o : AOper} {d : Pos} {q : PO} (h : tailP o = some (d, q)) {s : St} {v : AV} (hv : evP q s.fr = some v) : stepO call { o with re := [] } s = some (.normal ⟨T.set v d s.fr, s.h, s.df, s.u⟩) := by
  obtain ⟨h1, h2, h3⟩ := tailP_inv h
  obtain ⟨dst, op, g, re⟩ := o
  simp only at h1 h2 h3
  subst h1 h2 h3
  show (ob (evP q s.fr) fun v => some (Out.normal ⟨putD (some d) v s.fr, s.h, s.df, s.u⟩)) = _
  rw [hv]; rfl
theorem step_s {call : CallF} {o : AOper} {n : Option Nat} {a x : Opd} (h : tailO o = some (n, a, x)) {s : St} {va vx : AV} (ha : opv s.fr a = some va) (hx : opv s.fr x = some vx) {h' : HP} (hs : storeO n va vx s.h = some h') : stepO call { o with re := [] } s = some (.normal ⟨s.fr, h', s.df, s.u⟩) := by
  obtain ⟨h1, h2, h3⟩ := tailO_inv h
  obtain ⟨dst, op, g, re⟩ := o
  simp only at h1 h2 h3
  subst h1 h2 h3
  cases n with
  | none =>
    show (ob (ob (opv s.fr a) fun a => ob (opv s.fr x) fun x => ob (storeV a x s.h) fun h => some (AV.tup [], h)) fun r => some (Out.normal ⟨s.fr, r.2, s.df, s.u⟩)) = _
    rw [ha, hx, ob_some, ob_some, show storeV va vx s.h = some h' from hs]; rfl
  | some n =>
    show (ob (ob (opv s.fr a) fun a => ob (opv s.fr x) fun x => ob (storesV n a x s.h) fun h => some (AV.tup [], h)) fun r => some (Out.normal ⟨s.fr, r.2, s.df, s.u⟩)) = _
    rw [ha, hx, ob_some, ob_some, show storesV n va vx s.h = some h' from hs]; rfl
theorem onlyB_ok {o : Oper} {m k : Nat} (h : onlyB o m k = true) {e : Edge} (he : e ∈ o.after) (hb : Region.binds .any e = true) : e.on < m ∨ e.on = k := by
  unfold onlyB at h
  rw [Array.all_eq_true'] at h
  have := h e he
  rw [hb] at this
  simpa using this
theorem onlyP_ok {o : Oper} {m : Nat} (h : onlyP o m = true) {e : Edge} (he : e ∈ o.after) (hb : Region.binds .any e = true) : e.on < m := by
  unfold onlyP at h
  rw [Array.all_eq_true'] at h
  have := h e he
  rw [hb] at this
  simpa using this
theorem hasE_ok {o : Oper} {k : Nat} (h : hasE o k = true) : ∃ e ∈ o.after, Region.binds .any e = true ∧ e.on = k := by
  unfold hasE at h
  rw [Array.any_eq_true'] at h
  obtain ⟨e, he, h⟩ := h
  simp only [Bool.and_eq_true, beq_iff_eq] at h
  exact ⟨e, he, h⟩
theorem tail_any (hc : CallOk P B.w0 call) (hnt : B.nt = nt) {m : Nat} {A1 A2 B1 B2 : Oper} (o1 : ops[m]? = some A1) (o2 : ops[m + 1]? = some A2) (o3 : ops[m + 2]? = some B1) (o4 : ops[m + 3]? = some B2)
    {d1 d2 : Pos} {q1 q2 : PO} {n1 n2 : Option Nat} {a1 x1 a2 x2 : Opd} (t1 : tailP (trOper P nt ops A1) = some (d1, q1)) (t2 : tailO (trOper P nt ops A2) = some (n1, a1, x1)) (t3 : tailP (trOper P nt ops B1) = some (d2, q2)) (t4 : tailO (trOper P nt ops B2) = some (n2, a2, x2))
    (hok : tailOk ops m A1 A2 B1 B2 d1 d2 q1 q2 a1 x1 a2 x2 = true) {s0 : St} (he : evOps call [⟨some d1, .p q1, none, []⟩, ⟨some d2, .p q2, none, []⟩, ⟨none, .e (.st2 n1 n2 a1 x1 a2 x2), none, []⟩] s0 = some out) (sr : SR B φ s0 a cs w) :
    wpAny P .any ops (fun e a w => OutR B out e a cs w) 4 (listed4 m 0 0) a w := by
  unfold tailOk at hok
  simp only [Bool.and_eq_true, decide_eq_true_eq, bne_iff_ne] at hok
  obtain ⟨⟨⟨⟨⟨⟨⟨⟨⟨⟨⟨hm, hgd⟩, b1⟩, b2⟩, b3⟩, b4⟩, e2⟩, e4⟩, hall⟩, hne⟩, un2⟩, un1⟩ := hok
  -- the run
  have he : (ob (evP q1 s0.fr) fun v1 => ob (evP q2 (T.set v1 d1 s0.fr)) fun v2 => ob (evE (.st2 n1 n2 a1 x1 a2 x2) (T.set v2 d2 (T.set v1 d1 s0.fr)) s0.h) fun r => some (Out.normal ⟨T.set v2 d2 (T.set v1 d1 s0.fr), r.2, s0.df, s0.u⟩)) = some out := by
    rw [← he]
    simp only [evOps_cons, evOps_nil]
    show _ = ob (ob (evP q1 s0.fr) fun v => some (Out.normal ⟨T.set v d1 s0.fr, s0.h, s0.df, s0.u⟩)) _
    cases evP q1 s0.fr with
    | none => rfl
    | some v1 =>
      show _ = ob (ob (evP q2 (T.set v1 d1 s0.fr)) fun v => some (Out.normal ⟨T.set v d2 (T.set v1 d1 s0.fr), s0.h, s0.df, s0.u⟩)) _
      rw [ob_some]
      cases evP q2 (T.set v1 d1 s0.fr) with
      | none => rfl
      | some v2 =>
        show _ = ob (ob (evE (.st2 n1 n2 a1 x1 a2 x2) (T.set v2 d2 (T.set v1 d1 s0.fr)) s0.h) fun r => some (Out.normal ⟨T.set v2 d2 (T.set v1 d1 s0.fr), r.2, s0.df, s0.u⟩)) _
        rw [ob_some]
        cases evE (.st2 n1 n2 a1 x1 a2 x2) (T.set v2 d2 (T.set v1 d1 s0.fr)) s0.h <;> rfl
  obtain ⟨v1, hv1, he⟩ := ob_eq he
  obtain ⟨v2, hv2, he⟩ := ob_eq he
  obtain ⟨r, hr, he⟩ := ob_eq he
  simp only [Option.some.injEq] at he
  obtain ⟨va1, ha1, hr⟩ := ob_eq (show (ob (opv (T.set v2 d2 (T.set v1 d1 s0.fr)) a1) fun a1 => ob (opv (T.set v2 d2 (T.set v1 d1 s0.fr)) x1) fun x1 => ob (opv (T.set v2 d2 (T.set v1 d1 s0.fr)) a2) fun a2 => ob (opv (T.set v2 d2 (T.set v1 d1 s0.fr)) x2) fun x2 => bif farP (some a1) (some a2) then ob (storeO n1 a1 x1 s0.h) fun h => ob (storeO n2 a2 x2 h) fun h => some (AV.tup [], h) else none) = some r from hr)
  obtain ⟨vx1, hx1, hr⟩ := ob_eq hr
  obtain ⟨va2, ha2, hr⟩ := ob_eq hr
  obtain ⟨vx2, hx2, hr⟩ := ob_eq hr
  obtain ⟨hfar, hr⟩ := bif_eq hr
  obtain ⟨hA, hsA, hr⟩ := ob_eq hr
  obtain ⟨hB, hsB, hr⟩ := ob_eq hr
  simp only [Option.some.injEq] at hr
  subst hr
  obtain ⟨c1, p1, cs1, r1, rfl, g1, rfl, st1⟩ := storeO_inv hsA
  obtain ⟨c2, p2, cs2, r2, rfl, g2, rfl, st2⟩ := storeO_inv hsB
  have hcc : c1 ≠ c2 := by
    have h1 : (Bool.rec true false (beqPos c1 c2) : Bool) = true := hfar
    intro e; subst e
    rw [beqPos_eq] at h1
    simp at h1
  rw [HP.get_put, if_neg (Ne.symm hcc)] at g2
  have get2 : ∀ p, T.get p (T.set v2 d2 (T.set v1 d1 s0.fr)) = if p = d2 then some v2 else if p = d1 then some v1 else T.get p s0.fr := by
    intro p; rw [T.get_set, T.get_set]
  have hv2' : evP q2 s0.fr = some v2 := by
    rw [← hv2]
    refine (evP_congr fun x hx => opv_at fun p e => ?_).symm
    subst e
    rw [T.get_set_ne _ (unnamed_ne un1 (by simp [hx]))]
  -- all roads
  have key : ∀ (k i j : Nat), i ≤ 2 → j ≤ 2 → i + j + k = 4 → ∀ (φ : Phi) (a : Act) (w : World) (s : St), SR B φ s a cs w → At s0 s d1 d2 v1 v2 c1 c2 r1 r2 i j → wpAny P .any ops (fun e a w => OutR B out e a cs w) k (listed4 m i j) a w := by
    intro k
    induction k with
    | zero =>
      intro i j hi hj hk φ a w s sr hs
      obtain rfl : i = 2 := by omega
      obtain rfl : j = 2 := by omega
      refine ⟨List.eq_nil_iff_forall_not_mem.2 fun q hq => ?_, ?_⟩
      · obtain ⟨h1, _⟩ := mem_ready.1 hq
        rw [listed4_get] at h1
        repeat' split at h1
        all_goals simp at h1
      · subst he
        refine ⟨rfl, φ, sr.alike (fun p => ?_) ?_ (fun b => ?_) hs.df.symm hs.u.symm⟩
        · rw [hs.fr, get2]; unfold frS; simp
        · rw [hs.nx]; rfl
        · rw [hs.hp]
          show ((s0.h.put c1 _).put c2 _).get b = _
          rw [HP.get_put, HP.get_put]; unfold hpS; simp
    | succ k ih =>
      intro i j hi hj hk φ a w s sr hs
      have go : ∀ (q : Nat) (o : Oper) (s' : St) (i' j' : Nat), ops[q]? = some o → stepO call { trOper P nt ops o with re := [] } s = some (.normal s') → (trOper P nt ops o).op ≠ .recover → i' ≤ 2 → j' ≤ 2 → i' + j' + k = 4 → At s0 s' d1 d2 v1 v2 c1 c2 r1 r2 i' j' → (listed4 m i j).setIfInBounds q true = listed4 m i' j' →
          wpOp P ops (fun e a w => OutR B out e a cs w) q (wpAny P .any ops (fun e a w => OutR B out e a cs w) k ((listed4 m i j).setIfInBounds q true)) a w := by
        intro q o s' i' j' ho hst hrec hi' hj' hk' hs' hset
        obtain ⟨h1, h2⟩ := one_seq (ops := ops) (re := []) hc sr hnt o (.inl hrec) hst (next := wpAny P .any ops (fun e a w => OutR B out e a cs w) k ((listed4 m i j).setIfInBounds q true)) (Q := fun e a w => OutR B out e a cs w)
          (fun s'' φ' a' w' e sr' => by
            simp only [Out.normal.injEq] at e; subst e
            rw [hset]
            exact ih i' j' hi' hj' hk' φ' a' w' _ sr' hs')
          (fun e a' w' hno _ => absurd rfl (hno _))
        unfold wpOp
        rw [ho]
        simp only
        split
        · rename_i hw; exact .inl (h1 hw)
        · rename_i hw; exact h2 (by simpa using hw)
      have nr1 : (trOper P nt ops A1).op ≠ .recover := by rw [(tailP_inv t1).2.1]; simp
      have nr3 : (trOper P nt ops B1).op ≠ .recover := by rw [(tailP_inv t3).2.1]; simp
      have nr2 : (trOper P nt ops A2).op ≠ .recover := by rw [(tailO_inv t2).2.1]; unfold stO; split <;> simp
      have nr4 : (trOper P nt ops B2).op ≠ .recover := by rw [(tailO_inv t4).2.1]; unfold stO; split <;> simp
      have inPre : ∀ {e : Edge}, e.on < m → (listed4 m i j).getD e.on false = true := by intro e h; rw [listed4_get, if_pos h]
      refine ⟨fun hr => ?_, fun q hq => ?_⟩
      · exfalso
        have no : ∀ q, ¬ q ∈ Region.ready .any ops (listed4 m i j) := by rw [hr]; simp
        rcases (by omega : i = 0 ∨ i = 1 ∨ (i = 2 ∧ j = 0) ∨ (i = 2 ∧ j = 1)) with rfl | rfl | ⟨rfl, rfl⟩ | ⟨rfl, rfl⟩
        · refine no m (mem_ready.2 ⟨by rw [listed4_get]; simp, A1, o1, fun e h hb => ?_⟩)
          exact inPre (onlyP_ok b1 h hb)
        · refine no (m + 1) (mem_ready.2 ⟨by rw [listed4_get]; simp, A2, o2, fun e h hb => ?_⟩)
          rcases onlyB_ok b2 h hb with g | g
          · exact inPre g
          · rw [g, listed4_get]; simp
        · refine no (m + 2) (mem_ready.2 ⟨by rw [listed4_get]; simp, B1, o3, fun e h hb => ?_⟩)
          exact inPre (onlyP_ok b3 h hb)
        · refine no (m + 3) (mem_ready.2 ⟨by rw [listed4_get]; simp, B2, o4, fun e h hb => ?_⟩)
          rcases onlyB_ok b4 h hb with g | g
          · exact inPre g
          · rw [g, listed4_get]; simp
      · obtain ⟨h1, o, ho, hall⟩ := mem_ready.1 hq
        rw [listed4_get] at h1
        have hqm : ¬ q < m := by intro h; rw [if_pos h] at h1; simp at h1
        rw [if_neg hqm] at h1
        by_cases k1 : q = m
        · subst k1
          rw [if_pos rfl] at h1
          have hi0 : i = 0 := by have := of_decide_eq_false h1; omega
          subst hi0
          have hv : evP q1 s.fr = some v1 := by
            rw [← hv1]
            refine evP_congr fun x hx => opv_at fun p e => ?_
            subst e
            rw [hs.fr]; unfold frS
            rw [if_neg (fun h => unnamed_ne un2 (by simp [hx]) h.2), if_neg (by omega)]
          refine go q A1 _ 1 j o1 (step_p t1 hv) nr1 (by omega) hj (by omega) ⟨fun p => ?_, hs.nx, fun b => ?_, hs.df, hs.u⟩ (listed4_set fun z hz => ?_)
          · rw [T.get_set, hs.fr]; unfold frS
            by_cases e : p = d1
            · subst e; simp [hne]
            · simp [e]
          · rw [hs.hp]; unfold hpS; simp
          · rw [listed4_get?, listed4_get?]
            by_cases e : z = q
            · subst e; simp
            · simp [e]
        rw [if_neg k1] at h1
        by_cases k2 : q = m + 1
        · subst k2
          rw [if_pos rfl] at h1
          have hi2 : ¬ 2 ≤ i := of_decide_eq_false h1
          rw [o2] at ho
          obtain rfl := Option.some.inj ho
          obtain ⟨e, he1, he2, he3⟩ := hasE_ok e2
          have := hall e he1 he2
          rw [he3, listed4_get] at this
          have hi1 : 1 ≤ i := by simpa using this
          obtain rfl : i = 1 := by omega
          have op : ∀ {x : Opd} {v : AV}, x ∈ a1 :: x1 :: q1.opds → opv (T.set v2 d2 (T.set v1 d1 s0.fr)) x = some v → opv s.fr x = some v := by
            intro x v hx hv
            rw [← hv]
            refine opv_at fun p e => ?_
            subst e
            rw [hs.fr, get2]; unfold frS
            have := unnamed_ne un2 hx
            simp [this]
          refine go (m + 1) A2 _ 2 j o2 (step_s t2 (op (by simp) ha1) (op (by simp) hx1) (st1 s.h (by rw [hs.hp]; unfold hpS; simp [hcc, g1]))) nr2 (by omega) hj (by omega) ⟨fun p => ?_, ?_, fun b => ?_, hs.df, hs.u⟩ (listed4_set fun z hz => ?_)
          · rw [hs.fr]; unfold frS; simp
          · rw [HP.nx_put]; exact hs.nx
          · rw [HP.get_put, hs.hp]; unfold hpS
            by_cases e : b = c1
            · subst e; simp [hcc]
            · simp [e]
          · rw [listed4_get?, listed4_get?]
            by_cases e : z = m + 1
            · subst e; simp
            · simp [e]
        rw [if_neg k2] at h1
        by_cases k3 : q = m + 2
        · subst k3
          rw [if_pos rfl] at h1
          have hj0 : j = 0 := by have := of_decide_eq_false h1; omega
          subst hj0
          have hv : evP q2 s.fr = some v2 := by
            rw [← hv2']
            refine evP_congr fun x hx => opv_at fun p e => ?_
            subst e
            rw [hs.fr]; unfold frS
            rw [if_neg (by omega), if_neg (fun h => unnamed_ne un1 (by simp [hx]) h.2)]
          refine go (m + 2) B1 _ i 1 o3 (step_p t3 hv) nr3 hi (by omega) (by omega) ⟨fun p => ?_, hs.nx, fun b => ?_, hs.df, hs.u⟩ (listed4_set fun z hz => ?_)
          · rw [T.get_set, hs.fr]; unfold frS
            by_cases e : p = d2
            · subst e; simp
            · simp [e]
          · rw [hs.hp]; unfold hpS; simp
          · rw [listed4_get?, listed4_get?]
            by_cases e : z = m + 2
            · subst e; simp
            · simp [e]
        rw [if_neg k3] at h1
        by_cases k4 : q = m + 3
        · subst k4
          rw [if_pos rfl] at h1
          have hj2 : ¬ 2 ≤ j := of_decide_eq_false h1
          rw [o4] at ho
          obtain rfl := Option.some.inj ho
          obtain ⟨e, he1, he2, he3⟩ := hasE_ok e4
          have := hall e he1 he2
          rw [he3, listed4_get] at this
          have hj1 : 1 ≤ j := by
            rw [if_neg (by omega), if_neg (by omega), if_neg (by omega), if_pos rfl] at this
            exact of_decide_eq_true this
          obtain rfl : j = 1 := by omega
          have op : ∀ {x : Opd} {v : AV}, x ∈ a2 :: x2 :: q2.opds → opv (T.set v2 d2 (T.set v1 d1 s0.fr)) x = some v → opv s.fr x = some v := by
            intro x v hx hv
            rw [← hv]
            refine opv_at fun p e => ?_
            subst e
            rw [hs.fr, get2]; unfold frS
            have := unnamed_ne un1 hx
            by_cases e2 : p = d2
            · simp [e2]
            · simp [e2, this]
          refine go (m + 3) B2 _ i 2 o4 (step_s t4 (op (by simp) ha2) (op (by simp) hx2) (st2 s.h (by rw [hs.hp]; unfold hpS; simp [Ne.symm hcc, g2]))) nr4 hi (by omega) (by omega) ⟨fun p => ?_, ?_, fun b => ?_, hs.df, hs.u⟩ (listed4_set fun z hz => ?_)
          · rw [hs.fr]; unfold frS; simp
          · rw [HP.nx_put]; exact hs.nx
          · rw [HP.get_put, hs.hp]; unfold hpS
            by_cases e : b = c2
            · subst e; simp
            · simp [e]
          · rw [listed4_get?, listed4_get?]
            by_cases e : z = m + 3
            · subst e; simp
            · simp [e]
        rw [if_neg k4] at h1
        simp at h1
  exact key 4 0 0 (by omega) (by omega) (by omega) φ a w s0 sr ⟨fun p => by unfold frS; simp, rfl, fun b => by unfold hpS; simp, rfl, rfl⟩
theorem outD_inv {dl : List Pos} {c : Chain} {s : St} {e : Exit} (h : OutR B (outD dl (.panic c s)) e a cs w) : ∃ ch φ, e = .panic ch ∧ ChRel φ ch c ∧ Rel B.w0 φ s.h w ∧ Ext B.φ B.h B.w φ s.h w ∧ DfRel φ a.defers s.df ∧ CsR φ B.cs s.u cs ∧ (B.D = false ↔ s.u = .no) ∧ (s.df ≠ [] → FrRel φ B.nt a.tmps (delL dl s.fr)) := by
  cases hd : !(noDf s.df) with
  | true => rw [show outD dl (.panic c s) = .panic c ⟨delL dl s.fr, s.h, s.df, s.u⟩ from by unfold outD; simp only [hd, cond_true]] at h; exact h
  | false =>
    rw [show outD dl (.panic c s) = .panic c s from by unfold outD; simp only [hd, cond_false]] at h
    obtain ⟨ch, φ, h1, h2, h3, h4, h5, h6, h7, h8⟩ := h
    refine ⟨ch, φ, h1, h2, h3, h4, h5, h6, h7, fun hne => ?_⟩
    cases hs : s.df with
    | nil => exact absurd hs hne
    | cons x l => rw [hs] at hd; simp [noDf] at hd
theorem dstL_app {L R : List AOper} {d : Pos} (h : d ∈ dstL L) : d ∈ dstL (L ++ R) := by
  induction L with
  | nil => exact absurd h (by show d ∉ ([] : List Pos); simp)
  | cons x L ih =>
    have h : d ∈ (match x.dst with | some p => p :: dstL L | none => dstL L) := h
    show d ∈ (match x.dst with | some p => p :: dstL (L ++ R) | none => dstL (L ++ R))
    split <;> rename_i hx <;> rw [hx] at h
    · rcases List.mem_cons.1 h with rfl | h
      · simp
      · simp [ih h]
    · exact ih h
theorem outX_no {d : Bool} {L : List AOper} {o : Out} (h : ∀ c s', o ≠ .panic c s') : outX d L o = o := by
  cases o <;> first | rfl | exact absurd rfl (h _ _)
theorem tail_normal {call : CallF} {d1 d2 : Pos} {q1 q2 : PO} {n1 n2 : Option Nat} {a1 x1 a2 x2 : Opd} {s0 : St} {out : Out} (he : evOps call [⟨some d1, .p q1, none, []⟩, ⟨some d2, .p q2, none, []⟩, ⟨none, .e (.st2 n1 n2 a1 x1 a2 x2), none, []⟩] s0 = some out) : ∀ c s', out ≠ .panic c s' := by
  rw [evOps_cons] at he
  obtain ⟨r1, h1, he⟩ := ob_eq he
  obtain ⟨v1, _, h1⟩ := ob_eq (show (ob (evP q1 s0.fr) fun v => some (Out.normal ⟨T.set v d1 s0.fr, s0.h, s0.df, s0.u⟩)) = some r1 from h1)
  simp only [Option.some.injEq] at h1; subst h1
  simp only at he
  rw [evOps_cons] at he
  obtain ⟨r2, h2, he⟩ := ob_eq he
  obtain ⟨v2, _, h2⟩ := ob_eq (show (ob (evP q2 (T.set v1 d1 s0.fr)) fun v => some (Out.normal ⟨T.set v d2 (T.set v1 d1 s0.fr), s0.h, s0.df, s0.u⟩)) = some r2 from h2)
  simp only [Option.some.injEq] at h2; subst h2
  simp only at he
  rw [evOps_cons] at he
  obtain ⟨r3, h3, he⟩ := ob_eq he
  obtain ⟨v3, _, h3⟩ := ob_eq (show (ob (evE (.st2 n1 n2 a1 x1 a2 x2) (T.set v2 d2 (T.set v1 d1 s0.fr)) s0.h) fun r => some (Out.normal ⟨T.set v2 d2 (T.set v1 d1 s0.fr), r.2, s0.df, s0.u⟩)) = some r3 from h3)
  simp only [Option.some.injEq] at h3; subst h3
  simp only [evOps_nil, Option.some.injEq] at he; subst he
  intro c s' e; simp at e
theorem letsOut_outR {out out' : Out} (h : LetsOut (fun e a w => OutR B out e a cs w)) : LetsOut (fun e a w => OutR B out' e a cs w) := by
  obtain ⟨a, w, h⟩ := h
  cases out with
  | normal s => exact absurd h.1 (by simp)
  | exit id s => exact absurd h.1 (by simp)
  | ret s => exact absurd h.1 (by simp)
  | panic c s => obtain ⟨_, _, h, _⟩ := h; simp at h
theorem tail_region (hc : CallOk P B.w0 call) (hnt : B.nt = nt) (hP : P.follows .mixedOrders = true) {L : List AOper} (hL : trTail P nt ops = some L) (sr : SR B φ s a cs w) (he : evOps call L s = some out)
    (id : Nat) : (Code.region id ops true).wp P (fun e a w => OutR B (outX true L out) e a cs w) a w := by
  unfold trTail at hL
  simp only at hL
  split at hL
  case h_2 => simp at hL
  rename_i A1 A2 B1 B2 o1 o2 o3 o4
  split at hL
  case h_2 => simp at hL
  rename_i d1 q1 n1 a1 x1 d2 q2 n2 a2 x2 L1 t1 t2 t3 t4 hL1
  split at hL
  case isFalse => simp at hL
  rename_i hok
  simp only [Option.some.injEq] at hL
  subst hL
  generalize hmd : ops.size - 4 = m at *
  have hok' := hok
  unfold tailOk at hok'
  simp only [Bool.and_eq_true, decide_eq_true_eq, bne_iff_ne] at hok'
  obtain ⟨⟨⟨⟨⟨⟨⟨⟨⟨⟨⟨hm, hgd⟩, b1⟩, b2⟩, b3⟩, b4⟩, e2⟩, e4⟩, hall⟩, hne⟩, un2⟩, un1⟩ := hok'
  rw [evOps_app] at he
  obtain ⟨r, hr, he⟩ := ob_eq he
  have hsz : (ops.extract 0 m).size = m := by simp; omega
  have hp : ∀ k, k < m → (ops.extract 0 m)[k]? = ops[k]? := by
    intro k hk
    rw [Array.getElem?_extract]
    simp; omega
  have pl : Plan P nt (ops.extract 0 m) (fun i => (Region.before (ops.extract 0 m)).getD i 0) (asap (ops.extract 0 m).size (fun i => match ((ops.extract 0 m).map (trOper P nt (ops.extract 0 m)))[i]? with | some o => isEff o.op | none => true) (Region.before (ops.extract 0 m)) (ops.extract 0 m).size 0 []) := by
    unfold trDraw at hL1
    simp only at hL1
    split at hL1
    case isFalse => simp at hL1
    rename_i h
    exact plan_of h
  refine wp_region_any hP ?_
  have h1 := draw_wp hc hnt hL1 sr hr
  have h2 := wpAny_pre (ops := ops) (n := 4) (by omega) hsz hp pl.edge (fun i o j b hi hg => by
      rw [List.all_eq_true] at hgd
      have := hgd o (by
        rw [List.mem_iff_getElem?]
        exact ⟨i, by rw [Array.getElem?_toList]; exact hi⟩)
      rw [hg] at this
      simpa using this)
    (fun i o hi ho => by
      have hlt : i < m + 4 := by
        rcases Nat.lt_or_ge i ops.size with h | h
        · omega
        · rw [Array.getElem?_eq_none h] at ho; simp at ho
      rw [List.all_eq_true] at hall
      rcases (by omega : i = m ∨ i = m + 1 ∨ i = m + 2 ∨ i = m + 3) with rfl | rfl | rfl | rfl
      · rw [o1] at ho; obtain rfl := Option.some.inj ho
        refine .inl fun k hk => ?_
        have := hall k (by simpa using hk)
        rw [Bool.and_eq_true] at this
        exact hasE_ok this.1
      · rw [o2] at ho; obtain rfl := Option.some.inj ho
        obtain ⟨e, g1, g2, g3⟩ := hasE_ok e2
        exact .inr ⟨e, g1, g2, by omega⟩
      · rw [o3] at ho; obtain rfl := Option.some.inj ho
        refine .inl fun k hk => ?_
        have := hall k (by simpa using hk)
        rw [Bool.and_eq_true] at this
        exact hasE_ok this.2
      · rw [o4] at ho; obtain rfl := Option.some.inj ho
        obtain ⟨e, g1, g2, g3⟩ := hasE_ok e4
        exact .inr ⟨e, g1, g2, by omega⟩)
    (Q1 := fun e a w => OutR B (outX true L1 r) e a cs w) (Q := fun e a w => OutR B (outX true (L1 ++ [⟨some d1, .p q1, none, []⟩, ⟨some d2, .p q2, none, []⟩, ⟨none, .e (.st2 n1 n2 a1 x1 a2 x2), none, []⟩]) out) e a cs w)
    (fun e a w hne h => by
      cases r with
      | normal s' => exact absurd h.1 hne
      | panic c s' =>
        simp only [Option.some.injEq] at he; rw [← he]
        rw [outX_true] at h ⊢
        obtain ⟨ch, φ2, h1, h2, h3, h4, h5, h6, h7, h8⟩ := outD_inv h
        refine outD_ok h1 h2 h3 h4 h5 h6 h7 fun hne => ⟨(h8 hne).gl, (h8 hne).size, fun t x hx => (h8 hne).val t x ?_⟩
        obtain ⟨g1, g2⟩ := delL_get _ _ _ _ hx
        exact delL_put (fun h => g1 (dstL_app h)) g2
      | _ => simp only [Option.some.injEq] at he; rw [← he]; exact h)
    letsOut_outR
    (fun a w h => by
      cases r with
      | normal s1 =>
        obtain ⟨_, φ1, sr1⟩ := h
        have := tail_any (ops := ops) hc hnt o1 o2 o3 o4 t1 t2 t3 t4 hok he sr1
        have hno : ∀ c s', out ≠ .panic c s' := tail_normal he
        have e0 : listed4 m 0 0 = Array.replicate m true ++ Array.replicate 4 false := rfl
        rw [← e0, outX_no hno]; exact this
      | exit id s' => exact absurd h.1 (by simp)
      | ret s' => exact absurd h.1 (by simp)
      | panic c s' => obtain ⟨_, _, h, _⟩ := h; simp at h)
    (ops.extract 0 m).size _ a _ (by simp; omega) h1 (by simp)
  have hz : Array.replicate (ops.extract 0 m).size false ++ Array.replicate 4 false = Array.replicate ops.size false := by
    rw [hsz, ← hm]; simp
  rw [hz, hsz, hm] at h2
  exact h2
theorem drawX_region (hc : CallOk P B.w0 call) (hnt : B.nt = nt) (hP : P.follows .mixedOrders = true) {L : List AOper} (hL : trDrawX P nt ops = some L) (sr : SR B φ s a cs w) (he : evOps call L s = some out)
    (id : Nat) : (Code.region id ops true).wp P (fun e a w => OutR B (outX true L out) e a cs w) a w := by
  unfold trDrawX at hL
  split at hL
  · rename_i L' h
    obtain rfl := Option.some.inj hL
    exact draw_region hc hnt hP h sr he id
  · exact tail_region hc hnt hP hL sr he id
end
end Go.Proofs.YtmoabbfdehaenaaGreatDoor.Ev
