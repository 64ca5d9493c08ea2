/- A framework for walks: Regions whose order is drawn: the theorem. Regions and code. Regions that end in two stores, in whatever order. -/
import Derived.Test.YtcoldhmbmcdemaaGreatFc
import Derived.Scope
set_option linter.unusedVariables false
set_option linter.unusedSimpArgs false
set_option linter.unusedSectionVars false
namespace Go.Proofs.YtcoldhmbmcdemaaGreat.Ev
open Go
variable [Rho]
section
variable {P : Program} {nt : Nat} {ops : Array Oper} {bef : Nat → Nat} {c : List Nat} {call : CallF} {re : Nat → List Re} {N : Nat} {st : Nat → St} {out : Out}
variable {B : Base} {S : Nat → Prop} {φ φ' : Phi} {a : Act} {cs : List Frame} {w w' : World} {b j i : Nat} {o : Oper}

theorem again1_true {g : Option (Pos × Bool)} {q : LO} {d : Pos} {fr : T AV} {h : HP} {v : AV} (ha : again1 ⟨g, q, d⟩ fr h = true) (hg : wantedA g fr = some true) (hd : T.get d fr = some v) : evL q fr h = some v := by
  unfold again1 at ha
  rw [hg] at ha
  simp only at ha
  cases he : evL q fr h with
  | none => rw [he] at ha; simp at ha
  | some u =>
    rw [he, hd] at ha
    have := beqA_eq (x := u) (y := v) ha
    rw [this]

theorem againO_mem {op : AOp} {x : Re} {fr : T AV} {h : HP} {re : List Re} (hm : x ∈ re) (ha : againO op re fr h = true) : again1 x fr h = true ∨ ∃ q, op = .e q ∧ disj q x.l fr = true := by
  cases op with
  | e q =>
    have ha : againE q re fr h = true := ha
    induction re with
    | nil => simp at hm
    | cons y re ih =>
      have ha : (Bool.casesOn (bif disj q y.l fr then true else again1 y fr h) false (againE q re fr h) : Bool) = true := ha
      cases hb : (bif disj q y.l fr then true else again1 y fr h) with
      | false => rw [hb] at ha; simp at ha
      | true =>
        rw [hb] at ha
        rcases List.mem_cons.1 hm with rfl | hm
        · cases hd : disj q x.l fr with
          | true => exact .inr ⟨q, rfl, hd⟩
          | false => rw [hd] at hb; exact .inl hb
        · exact ih hm ha ha
  | _ => exact .inl (again_mem hm ha)
omit [Rho] in
theorem farP_true {x y : Option AV} (h : farP x y = true) : ∃ b o c p, x = some (.ptr b o) ∧ y = some (.ptr c p) ∧ c ≠ b := by
  cases x with
  | none => exact ff h
  | some x =>
    cases y with
    | none => exact ff h
    | some y =>
      cases x <;> try exact ff h
      cases y <;> try exact ff h
      rename_i b o c p
      refine ⟨b, o, c, p, rfl, rfl, fun e => ?_⟩
      subst e
      have h : (Bool.rec true false (beqPos c c) : Bool) = true := h
      rw [(beqPos_iff c c).2 rfl] at h
      exact ff h
theorem storeAt_get {b c : Pos} {o : Nat} {vs : List AV} {h h' : HP} (hs : storeAt b o vs h = some h') (hne : c ≠ b) : h'.get c = h.get c := by
  unfold storeAt at hs
  obtain ⟨k, hk, hs⟩ := ob_eq hs
  split at hs
  · obtain ⟨_, hs⟩ := bif_eq hs
    obtain ⟨q, _, hs⟩ := ob_eq hs
    simp only [Option.some.injEq] at hs; subst hs
    rw [HP.get_put, if_neg hne]
  · simp at hs
theorem evL_far {l : LO} {p : Opd} {fr : T AV} {h h' : HP} {c : Pos} {o : Nat} (hl : srcO l = some p) (hp : opv fr p = some (.ptr c o)) (hg : h'.get c = h.get c) : evL l fr h' = evL l fr h := by
  have no : ∀ {C : Prop}, (none : Option Opd) = some p → C := fun e => by simp at e
  cases l with
  | cell a =>
    obtain rfl : a = p := Option.some.inj (show some a = some p from hl)
    show (ob (opv fr a) fun a => cellV a h') = ob (opv fr a) fun a => cellV a h
    rw [hp]
    show (ob (h'.get c) _) = ob (h.get c) _
    rw [hg]
  | cells n a =>
    obtain rfl : a = p := Option.some.inj (show some a = some p from hl)
    show (ob (opv fr a) fun a => cellsV n a h') = ob (opv fr a) fun a => cellsV n a h
    rw [hp]
    show (ob (h'.get c) _) = ob (h.get c) _
    rw [hg]
  | _ => exact no hl
theorem evL_disj {q : EO} {l : LO} {fr : T AV} {h h' : HP} {u : AV} (hd : disj q l fr = true) (he : evE q fr h = some (u, h')) : evL l fr h' = evL l fr h := by
  unfold disj at hd
  split at hd
  · rename_i a p ha hp
    obtain ⟨b, o, c, o', h1, h2, hne⟩ := farP_true hd
    refine evL_far hp h2 ?_
    have no : ∀ {C : Prop}, (none : Option Opd) = some a → C := fun e => by simp at e
    cases q <;> try exact no ha
    · rename_i a' x'
      obtain rfl : a' = a := Option.some.inj (show some a' = some a from ha)
      simp only [evE, h1, ob_some] at he
      obtain ⟨x, _, he⟩ := ob_eq he
      obtain ⟨h2, hs, he⟩ := ob_eq he
      simp only [Option.some.injEq, Prod.mk.injEq] at he
      obtain ⟨_, rfl⟩ := he
      exact storeAt_get (show storeAt b o [x] h = some h2 from hs) hne
    · rename_i n' a' x'
      obtain rfl : a' = a := Option.some.inj (show some a' = some a from ha)
      simp only [evE, h1, ob_some] at he
      obtain ⟨x, _, he⟩ := ob_eq he
      obtain ⟨h2, hs, he⟩ := ob_eq he
      simp only [Option.some.injEq, Prod.mk.injEq] at he
      obtain ⟨_, rfl⟩ := he
      cases x <;> try exact absurd (show (none : Option HP) = some h2 from hs) (by simp)
      rename_i cs _
      obtain ⟨_, hs⟩ := bif_eq (show (bif Nat.beq (lenL cs) n' then storeAt b o cs h else none) = some h2 from hs)
      exact storeAt_get hs hne
  · simp at hd

theorem Inv.reload (pl : Plan P nt ops bef c) (ru : Runs P nt ops call c re N st out) (iv : Inv P nt ops bef c N st B S φ a cs w b) (hi : c[b]? = some i) (hr : ∀ k, (bef i).testBit k = true → S k)
    (hre : rechecks (ops.map (trOper P nt ops)) bef i c = some (re b)) {h' : HP} {aop : AOp} (hae : ∀ q, aop = .e q → ∃ v, evE q (st b).fr (st b).h = some (v, h')) (hag : againO aop (re b) (st b).fr h' = true) :
    ∀ (j i : Nat) (o : Oper) (q : LO) (v : AV), j < b → c[j]? = some i → ops[i]? = some o → ¬ S i → wantedA (trOper P nt ops o).guard (st j).fr = some true → (trOper P nt ops o).op = .l q → evL q (st j).fr (st j).h = some v → evL q (st j).fr h' = some v := by
  intro j i2 o q v hj hi2 ho hnS hw hop hev
  have hbN := iv.ble
  have mp : ∀ {i : Nat} {o : Oper}, ops[i]? = some o → (ops.map (trOper P nt ops))[i]? = some (trOper P nt ops o) := by intro i o h; simp [h]
  have hbit : (bef i).testBit i2 = false := by
    cases hb : (bef i).testBit i2 with
    | false => rfl
    | true => exact absurd (hr _ hb) hnS
  obtain ⟨d, hd, hdr, hall, hmem⟩ := rechecks_spec hre hi2 (fun j' hj' he => by have := pl.inj j' b i he hi; omega) (mp ho) hop hbit
  have hag2 := againO_mem hmem hag
  have szm : (ops.map (trOper P nt ops)).size = ops.size := by simp
  have keep : ∀ p, p ∈ (trOper P nt ops o).reads → T.get p (st b).fr = T.get p (st j).fr := by
    intro p hp
    refine ru.keep pl b (by omega) hbN fun j'' i'' o'' g1 g2 hi'' ho'' hd'' => ?_
    by_cases e : i'' = i2
    · subst e
      rw [ho] at ho''; simp only [Option.some.injEq] at ho''; subst ho''
      rw [hd] at hd''; simp only [Option.some.injEq] at hd''; subst hd''
      exact hdr hp
    · have := hall i'' p (by rw [szm]; exact pl.lt _ _ hi'') e (by rw [mp ho'']; exact hd'') (by unfold AOper.names; exact List.mem_append_right _ hp)
      obtain ⟨j3, g3, g4⟩ := pl.lin j i2 i'' hi2 this
      have := pl.inj j3 j'' i'' g4 hi''
      omega
  obtain ⟨g, b', hg, hdd, e1, e2, hw', hs⟩ := stepO_inv (ru.step j i2 o (by omega) hi2 ho)
  have hval : T.get d (st (j + 1)).fr = some v := by
    rw [e2] at hw
    rw [hw] at hw'
    simp only [Option.some.injEq] at hw'; subst hw'
    rcases hs with ⟨h, _⟩ | ⟨_, aop, ht, e3, hs⟩
    · simp at h
    · rw [hop] at e3; subst e3
      simp only [evOp, evOpC, hev, ob_some, Option.some.injEq, Out.normal.injEq] at hs
      rw [← hs]
      show T.get d (putD (o.dst.map posOf) v (st j).fr) = some v
      rw [get_putD, ← e1, if_pos hd]
  have hval' : T.get d (st b).fr = some v := by
    rw [← hval]
    refine ru.keep pl b (by omega) hbN fun j'' i'' o'' g1 g2 hi'' ho'' hd'' => ?_
    by_cases e : i'' = i2
    · subst e; have := pl.inj j'' j i'' hi'' hi2; omega
    · have := hall i'' d (by rw [szm]; exact pl.lt _ _ hi'') e (by rw [mp ho'']; exact hd'') (by unfold AOper.names; rw [hd]; simp)
      obtain ⟨j3, g3, g4⟩ := pl.lin j i2 i'' hi2 this
      have := pl.inj j3 j'' i'' g4 hi''
      omega
  have hgw : wantedA (trOper P nt ops o).guard (st b).fr = some true := by
    rw [← hw]
    cases hgd : (trOper P nt ops o).guard with
    | none => rfl
    | some pw =>
      obtain ⟨p, wt⟩ := pw
      have : T.get p (st b).fr = T.get p (st j).fr := keep p (by unfold AOper.reads; rw [hgd]; simp [guardL])
      simp only [wantedA, this]
  have cg : ∀ H, evL q (st j).fr H = evL q (st b).fr H := fun H => by
    refine (evL_congr fun x hx => ?_).symm
    cases x with
    | c v => rfl
    | t p => exact keep p (by unfold AOper.reads; rw [hop]; exact List.mem_append_left _ (List.mem_flatMap.2 ⟨_, hx, by simp [Opd.tmp]⟩))
  rcases hag2 with h1 | ⟨qe, rfl, hdj⟩
  · have h2 := again1_true h1 hgw hval'
    rw [← h2]
    exact cg h'
  · obtain ⟨u, hu⟩ := hae qe rfl
    have h0 := iv.load j i2 o q v hj hi2 ho hnS hw hop hev
    rw [cg, evL_disj hdj hu, ← cg]; exact h0

theorem count_set : ∀ {l : List Bool} {i : Nat}, l[i]? = some false → (l.set i true).count false + 1 = l.count false
  | [], i, h => by simp at h
  | x :: l, 0, h => by
    simp only [List.getElem?_cons_zero, Option.some.injEq] at h; subst h
    simp
  | x :: l, i + 1, h => by
    have := count_set (l := l) (i := i) (by simpa using h)
    simp only [List.set_cons_succ, List.count_cons]
    omega

theorem count_zero {l : List Bool} (h : l.count false = 0) {i : Nat} (hi : i < l.length) : l[i]? = some true := by
  have : false ∉ l := List.count_eq_zero.1 h
  rw [List.getElem?_eq_getElem hi]
  cases hb : l[i] with
  | true => rfl
  | false => exact absurd (hb ▸ List.getElem_mem hi) this

theorem Inv.done (pl : Plan P nt ops bef c) (ru : Runs P nt ops call c re N st out) (hnt : B.nt = nt) (iv : Inv P nt ops bef c N st B S φ a cs w b) (hS : ∀ k, k < ops.size → S k) : OutR B out .normal a cs w := by
  have hall : ∀ j, j < c.length → j < b := by
    intro j hj
    have h1 : c[j]? = some c[j] := List.getElem?_eq_getElem hj
    exact iv.low j _ h1 (hS _ (pl.lt _ _ h1))
  have hb := iv.ble
  have hN := ru.le
  rcases ru.fin with ⟨h1, rfl⟩ | ⟨h1, _⟩
  · have hbN : b = N := by
      rcases Nat.lt_or_ge b N with h | h
      · exact absurd (hall b (by omega)) (by omega)
      · omega
    subst hbN
    refine ⟨rfl, φ, ⟨iv.rel.gb.1, by rw [hnt]; exact iv.size, fun t v hv => ?_⟩, iv.rel, iv.ext, iv.df, iv.cs, iv.dd⟩
    refine iv.tmp t v b (Nat.le_refl _) (fun j' i' o' hi' ho' hd' => ?_) hv
    have : j' < c.length := by
      rcases Nat.lt_or_ge j' c.length with h | h
      · exact h
      · rw [List.getElem?_eq_none h] at hi'; simp at hi'
    exact ⟨fun _ => hS _ (pl.lt _ _ hi'), fun _ => by omega⟩
  · exact absurd (hall N h1) (by omega)

theorem Runs.effN (pl : Plan P nt ops bef c) (ru : Runs P nt ops call c re N st out) (hN : N < c.length) (hi : c[N]? = some i) (ho : ops[i]? = some o) : isEff (trOper P nt ops o).op = true := by
  rcases ru.fin with ⟨h1, _⟩ | ⟨_, hno, hs⟩
  · omega
  · obtain ⟨g, b, hg, hd, e1, e2, hw, hs⟩ := stepO_inv (hs i o hi ho)
    rcases hs with ⟨_, h⟩ | ⟨_, aop, ht, e3, hs⟩
    · exact absurd h (hno _)
    · rw [e3]
      cases hef : isEff aop with
      | true => rfl
      | false =>
        cases aop <;> simp [isEff] at hef <;> simp only [evOp, evOpC] at hs <;> (obtain ⟨v, hv, hs⟩ := ob_eq hs; simp only [Option.some.injEq] at hs; exact absurd hs.symm (hno _))

noncomputable def outD (dl : List Pos) (o : Out) : Out := match o with | .panic c s => .panic c (bif !(noDf s.df) then ⟨delL dl s.fr, s.h, s.df, s.u⟩ else s) | o => o
theorem outX_true (L : List AOper) (o : Out) : outX true L o = outD (dstL L) o := by cases o <;> rfl
theorem outD_ok {B : Base} {dl : List Pos} {c : Chain} {s : St} {ch : List PanicEntry} {e : Exit} {a : Act} {cs : List Frame} {w : World} {φ : Phi} (he : e = .panic ch) (h1 : ChRel φ ch c) (h2 : Rel B.w0 φ s.h w) (h3 : Ext B.φ B.h B.w φ s.h w) (h4 : DfRel φ a.defers s.df) (h5 : CsR φ B.cs s.u cs) (h6 : B.D = false ↔ s.u = .no) (h7 : s.df ≠ [] → FrRel φ B.nt a.tmps (delL dl s.fr)) :
    OutR B (outD dl (.panic c s)) e a cs w := by
  cases hd : !(noDf s.df) with
  | true => rw [show outD dl (.panic c s) = .panic c ⟨delL dl s.fr, s.h, s.df, s.u⟩ from by unfold outD; simp only [hd, cond_true]]; exact ⟨ch, φ, he, h1, h2, h3, h4, h5, h6, h7⟩
  | false =>
    rw [show outD dl (.panic c s) = .panic c s from by unfold outD; simp only [hd, cond_false]]
    refine ⟨ch, φ, he, h1, h2, h3, h4, h5, h6, fun hne => ?_⟩
    cases hs : s.df with
    | nil => exact absurd hs hne
    | cons x l => rw [hs] at hd; simp [noDf] at hd
theorem outD_normal {B : Base} {dl : List Pos} {out : Out} {a : Act} {cs : List Frame} {w : World} (h : OutR B out .normal a cs w) : OutR B (outD dl out) .normal a cs w := by
  cases out with
  | panic c s => obtain ⟨_, _, h, _⟩ := h; simp at h
  | _ => exact h
theorem Inv.one (hc : CallOk P B.w0 call) (hnt : B.nt = nt) (pl : Plan P nt ops bef c) (ru : Runs P nt ops call c re N st out)
    (hre : ∀ (j i : Nat) (o : Oper), c[j]? = some i → ops[i]? = some o → isEff (trOper P nt ops o).op = true → rechecks (ops.map (trOper P nt ops)) bef i c = some (re j))
    {dl : List Pos} (hdl : ∀ (i : Nat) (o : Oper) (d : Pos), ops[i]? = some o → (trOper P nt ops o).dst = some d → d ∈ dl) (iv : Inv P nt ops bef c N st B S φ a cs w b) (hbe : b < N → ∃ (i : Nat) (o : Oper), c[b]? = some i ∧ ops[i]? = some o ∧ isEff (trOper P nt ops o).op = true)
    (ho : ops[i]? = some o) (hnS : ¬ S i) (hr : ∀ k, (bef i).testBit k = true → S k) {K : Act → World → Prop} (hK : ∀ φ' a' w' b', Inv P nt ops bef c N st B (fun k => S k ∨ k = i) φ' a' cs w' b' → K a' w') :
    wpOp P ops (fun e a w => OutR B (outD dl out) e a cs w) i K a w := by
  have hlt : i < ops.size := by
    rcases Nat.lt_or_ge i ops.size with h' | h'
    · exact h'
    · rw [Array.getElem?_eq_none h'] at ho; simp at ho
  obtain ⟨j, hi⟩ := pl.mem i hlt
  have hjc : j < c.length := by
    rcases Nat.lt_or_ge j c.length with h' | h'
    · exact h'
    · rw [List.getElem?_eq_none h'] at hi; simp at hi
  have hbN := iv.ble
  have hNc := ru.le
  have hjb : j ≤ b := by
    rcases Nat.lt_or_ge b c.length with h | h
    · obtain ⟨ib, ob, h1, h2⟩ := pl.get h
      have hef : isEff (trOper P nt ops ob).op = true := by
        rcases Nat.lt_or_ge b N with h' | h'
        · obtain ⟨ib', ob', g1, g2, g3⟩ := hbe h'
          rw [h1] at g1; simp only [Option.some.injEq] at g1; subst g1
          rw [h2] at g2; simp only [Option.some.injEq] at g2; subst g2
          exact g3
        · have : b = N := by omega
          subst this
          exact ru.effN pl h h1 h2
      exact iv.upto pl hi hr h1 h2 hef
    · omega
  have hjN : j ≤ N := by omega
  obtain ⟨hρ, hcong⟩ := iv.opds pl hi ho hnS hr hjN
  have hreads := iv.reads pl hi ho hnS hr hjN
  have hwant : ∀ {g : Option (Pos × Bool)} {bb : Bool}, guardOf ops o = some g → (trOper P nt ops o).guard = g → wantedA g (st j).fr = some bb → Region.wanted o (yielded ops a.tmps) = bb := by
    intro g bb hg e2 hw
    refine wanted_ok (a := a) hg (fun d want v hgd hv => hreads d v ?_ hv) hw
    unfold AOper.reads; rw [e2, hgd]; simp [guardL]
  unfold wpOp
  simp only [ho]
  cases hef : isEff (trOper P nt ops o).op with
  | false =>
    have hjb' : j < b := by
      rcases Nat.lt_or_ge j b with h | h
      · exact h
      · have : j = b := by omega
        subst this
        rcases Nat.lt_or_ge j N with h' | h'
        · obtain ⟨ib', ob', g1, g2, g3⟩ := hbe h'
          rw [hi] at g1; simp only [Option.some.injEq] at g1; subst g1
          rw [ho] at g2; simp only [Option.some.injEq] at g2; subst g2
          rw [hef] at g3; simp at g3
        · have : j = N := by omega
          subst this
          have := ru.effN pl hjc hi ho
          rw [hef] at this; simp at this
    obtain ⟨g, bb, hg, hd, e1, e2, hw, hs⟩ := stepO_inv (ru.step j i o (by omega) hi ho)
    rw [hwant hg e2 hw]
    rcases hs with ⟨rfl, hs⟩ | ⟨rfl, aop, ht, e3, hs⟩
    · simp only [Bool.false_eq_true, if_false]
      simp only [Out.normal.injEq] at hs
      exact hK φ _ w b (iv.low_step pl ru hi ho hnS hr hjb' (.refl _) iv.rel (Nat.le_refl _) (.tup _ _ .nil) (by rw [hs, e1]) e1 hd fun β h => .inl h)
    · simp only [if_true]
      left
      unfold Oper.wp
      rw [e3] at hef hcong
      cases aop <;> simp [isEff] at hef
      case p q =>
        simp only [evOp, evOpC] at hs
        obtain ⟨v, hv, hs⟩ := ob_eq hs
        simp only [Option.some.injEq, Out.normal.injEq] at hs
        obtain ⟨u, w', h1, h2, h3⟩ := evP_ok (P := P) (w := w) hρ o ht (by rw [evP_congr hcong]; exact hv)
        rw [h1, Oper.upon_value]
        exact hK φ _ w' b (iv.low_step pl ru hi ho hnS hr hjb' (.refl _) (h3.rel iv.rel) (by rw [h3.heap]; exact Nat.le_refl _) h2 (by rw [← hs, e1]) e1 hd fun β h => .inl h)
      case a q =>
        simp only [evOp, evOpC] at hs
        obtain ⟨r, hrr, hs⟩ := ob_eq hs
        simp only [Option.some.injEq, Out.normal.injEq] at hs
        obtain ⟨k, vk⟩ := r
        obtain ⟨p1, p2, p3⟩ := iv.pend j i o k vk q hjb' hi ho hnS (by rw [e2]; exact hw) e3 hrr
        have hal := ru.alloc (by omega) hi ho (by rw [e2]; exact hw) e3 hrr
        obtain ⟨u, w', l, h1, h2, h3, h4, h5⟩ := (evA_ok iv.rel hρ o ht (by rw [evA_congr hcong]; exact hrr)).late iv.rel p1 p3 p2
        rw [h1, Oper.upon_value]
        refine hK _ _ w' b (iv.low_step pl ru hi ho hnS hr hjb' h5 h3 h4 h2 (by rw [← hs, e1]) e1 hd fun β h => ?_)
        by_cases e : β = (st j).h.nx
        · exact .inr ⟨e, hal⟩
        · exact .inl (by simp [Phi.add, e, h])
      case l q =>
        simp only [evOp, evOpC] at hs
        obtain ⟨v, hv, hs⟩ := ob_eq hs
        simp only [Option.some.injEq, Out.normal.injEq] at hs
        have hv' := iv.load j i o q v hjb' hi ho hnS (by rw [e2]; exact hw) e3 hv
        obtain ⟨u, h1, h2⟩ := evL_ok iv.rel hρ o ht (by rw [evL_congr hcong]; exact hv')
        rw [h1, Oper.upon_value]
        exact hK φ _ w b (iv.low_step pl ru hi ho hnS hr hjb' (.refl _) iv.rel (Nat.le_refl _) h2 (by rw [← hs, e1]) e1 hd fun β h => .inl h)
  | true =>
    have hj : j = b := by
      rcases Nat.lt_or_ge j b with h | h
      · exact absurd (iv.effs j i o h hi ho hef) hnS
      · omega
    subst hj
    have hnr := pl.norec i o ho
    rcases Nat.lt_or_ge j N with hjN' | hjN'
    · obtain ⟨g, bb, hg, hd, e1, e2, hw, hs⟩ := stepO_inv (ru.step j i o hjN' hi ho)
      rw [hwant hg e2 hw]
      rcases hs with ⟨rfl, hs⟩ | ⟨rfl, aop, ht, e3, hs⟩
      · simp only [Bool.false_eq_true, if_false]
        simp only [Out.normal.injEq] at hs
        have hh : (st (j + 1)).h = (st j).h := by rw [hs]
        have := iv.eff_step pl ru hi ho hnS hr hjN' (φ' := φ) (w' := w) (ext' := by rw [hh]; exact .refl _ _ _) (by rw [hh]; exact iv.rel) (.tup #[] [] .nil) (ds := a.defers) (by rw [hs]; exact iv.df) (by rw [hs, e1]) e1 hd
          (fun j2 i2 o2 q v g1 g2 g3 g4 g5 g6 g7 => by rw [hh]; exact iv.load j2 i2 o2 q v g1 g2 g3 g4 g5 g6 g7)
        exact hK φ _ w _ this
      · simp only [if_true]
        left
        unfold Oper.wp
        rw [e3] at hcong hnr
        have hef' : isEff aop = true := by rw [← e3]; exact hef
        rcases evOp_eff (o := ⟨o.dst.map posOf, aop, g, re j⟩) hef' hnr hs with ⟨v, h', df', h1, hag, h2⟩ | ⟨c', h', h1, h2⟩
        · simp only [Out.normal.injEq] at h2
          refine eff_upon hc iv.rel hρ iv.df o ht (by rw [evEff_congr hcong]; exact h1) ?_ (by intro ch c h' φ' w' e; simp at e)
          intro v' av h'' df'' φ' w' ds' e g1 g2 g3 g4
          simp only [Res.ok.injEq] at e; obtain ⟨rfl, rfl, rfl⟩ := e
          have hh : (st (j + 1)).h = h' := by rw [h2]
          exact hK φ' _ w' _ (iv.eff_step pl ru hi ho hnS hr hjN' (ext' := by rw [hh]; exact g3) (by rw [hh]; exact g2) g1 (by rw [h2]; exact g4) (by rw [h2, e1]) e1 hd
            (by rw [hh]; exact iv.reload pl ru hi hr (hre j i o hi ho hef) (fun q e => by
              subst e
              obtain ⟨r, hr1, hr2⟩ := ob_eq (show (ob (evE q (st j).fr (st j).h) fun r => some (Res.ok r.1 r.2 (st j).df)) = some (.ok v h' df') from h1)
              simp only [Option.some.injEq, Res.ok.injEq] at hr2
              obtain ⟨_, rfl, _⟩ := hr2
              exact ⟨r.1, hr1⟩) hag))
        · simp at h2
    · have hjN2 : j = N := by omega
      subst hjN2
      rcases ru.fin with ⟨h1, _⟩ | ⟨_, hno, hs⟩
      · omega
      · obtain ⟨g, bb, hg, hd, e1, e2, hw, hs⟩ := stepO_inv (hs i o hi ho)
        rw [hwant hg e2 hw]
        rcases hs with ⟨rfl, hs⟩ | ⟨rfl, aop, ht, e3, hs⟩
        · exact absurd hs (hno _)
        · simp only [if_true]
          left
          unfold Oper.wp
          rw [e3] at hcong hnr
          have hef' : isEff aop = true := by rw [← e3]; exact hef
          rcases evOp_eff (o := ⟨o.dst.map posOf, aop, g, re j⟩) hef' hnr hs with ⟨v, h', df', h1, hag, h2⟩ | ⟨c', h', h1, h2⟩
          · exact absurd h2 (hno _)
          · refine eff_upon hc iv.rel hρ iv.df o ht (by rw [evEff_congr hcong]; exact h1) (by intro v av h' df' φ' w' ds' e; simp at e) ?_
            intro ch c'' h'' φ' w' e g1 g2 g3
            simp only [Res.pan.injEq] at e; obtain ⟨rfl, rfl⟩ := e
            rw [h2]
            refine outD_ok rfl g1 g2 (iv.ext.trans g3) (iv.df.mono g3.le) (iv.cs.mono g3.le) iv.dd fun _ => ⟨(iv.rel.gb.1).trans g3.le, by rw [hnt]; exact iv.size, fun t x hx => ?_⟩
            obtain ⟨hx1, hx2⟩ := delL_get _ _ _ _ hx
            exact (iv.tmp t x j hjN (fun j' i' o' _ ho' hd' => absurd (hdl i' o' _ ho' hd') hx1) hx2).mono g3.le
end
end Go.Proofs.YtcoldhmbmcdemaaGreat.Ev

namespace Go.Proofs.YtcoldhmbmcdemaaGreat.Ev
open Go
variable [Rho]
section
variable {P : Program} {nt : Nat} {ops : Array Oper} {bef : Nat → Nat} {c : List Nat} {call : CallF} {re : Nat → List Re} {N : Nat} {st : Nat → St} {out : Out}
variable {B : Base} {φ φ' : Phi} {s : St} {a : Act} {cs : List Frame} {w w' : World}

theorem draw_any (hc : CallOk P B.w0 call) (hnt : B.nt = nt) (pl : Plan P nt ops bef c) (ru : Runs P nt ops call c re N st out)
    (hre : ∀ (j i : Nat) (o : Oper), c[j]? = some i → ops[i]? = some o → isEff (trOper P nt ops o).op = true → rechecks (ops.map (trOper P nt ops)) bef i c = some (re j))
    {dl : List Pos} (hdl : ∀ (i : Nat) (o : Oper) (d : Pos), ops[i]? = some o → (trOper P nt ops o).dst = some d → d ∈ dl) : ∀ (fuel : Nat) (listed : Array Bool) (φ : Phi) (a : Act) (w : World) (b : Nat), listed.size = ops.size → listed.toList.count false ≤ fuel →
    Inv P nt ops bef c N st B (fun k => listed.getD k false = true) φ a cs w b → (b < N → ∃ (i : Nat) (o : Oper), c[b]? = some i ∧ ops[i]? = some o ∧ isEff (trOper P nt ops o).op = true) →
    wpAny P .any ops (fun e a w => OutR B (outD dl out) e a cs w) fuel listed a w := by
  have getD_lt : ∀ {l : Array Bool} {k : Nat}, k < l.size → l.getD k false = l.getD k true := by intro l k h; simp [Array.getD, h]
  have allOf : ∀ {listed : Array Bool}, listed.size = ops.size → Region.ready .any ops listed = [] → ∀ k, k < ops.size → listed.getD k false = true := by
    intro listed hsz hr k
    induction k using Nat.strongRecOn with
    | _ k ih =>
      intro hk
      cases hb : listed.getD k false with
      | true => rfl
      | false =>
        have : k ∈ Region.ready .any ops listed := by
          rw [mem_ready]
          refine ⟨by rw [← getD_lt (by omega)]; exact hb, ops[k], by simp [hk], fun e he hbd => ?_⟩
          have := pl.edge k ops[k] e (by simp [hk]) he hbd
          exact ih e.on this (by omega)
        rw [hr] at this; simp at this
  intro fuel
  induction fuel with
  | zero =>
    intro listed φ a w b hsz hcnt iv hbe
    have hall : ∀ k, k < ops.size → listed.getD k false = true := by
      intro k hk
      have := count_zero (Nat.le_zero.1 hcnt) (i := k) (by simpa [hsz] using hk)
      simp at this
      simp [Array.getD_eq_getD_getElem?, this]
    refine ⟨?_, outD_normal (iv.done pl ru hnt hall)⟩
    rw [List.eq_nil_iff_forall_not_mem]
    intro k hk
    obtain ⟨h1, o, h2, _⟩ := mem_ready.1 hk
    have hlt : k < ops.size := by
      rcases Nat.lt_or_ge k ops.size with h' | h'
      · exact h'
      · rw [Array.getElem?_eq_none h'] at h2; simp at h2
    have := hall k hlt
    rw [getD_lt (by omega), h1] at this; simp at this
  | succ fuel ih =>
    intro listed φ a w b hsz hcnt iv hbe
    refine ⟨fun hr => outD_normal (iv.done pl ru hnt (allOf hsz hr)), fun i hi => ?_⟩
    obtain ⟨h1, o, ho, hall⟩ := mem_ready.1 hi
    have hlt : i < ops.size := by
      rcases Nat.lt_or_ge i ops.size with h' | h'
      · exact h'
      · rw [Array.getElem?_eq_none h'] at ho; simp at ho
    have hnS : ¬ (listed.getD i false = true) := by rw [getD_lt (by omega), h1]; simp
    have hr : ∀ k, (bef i).testBit k = true → listed.getD k false = true := by
      intro k hk
      obtain ⟨o', e, g1, g2, g3, g4⟩ := pl.befs i k hk
      rw [ho] at g1; simp only [Option.some.injEq] at g1; subst g1
      have := hall e g2 g3
      rcases g4 with rfl | g4
      · exact this
      · exact iv.closed _ _ this g4
    refine iv.one hc hnt pl ru hre hdl hbe ho hnS hr fun φ' a' w' b' iv' => ?_
    obtain ⟨b'', iv'', hbe''⟩ := iv'.advance pl ru _ b' rfl
    have hS : (fun k => listed.getD k false = true ∨ k = i) = (fun k => (listed.setIfInBounds i true).getD k false = true) := by
      funext k
      by_cases e : k = i
      · subst e
        have : (listed.setIfInBounds k true).getD k false = true := by simp [Array.getD, hsz, hlt]
        simp [this]
      · rw [getD_set_ne false (Ne.symm e)]; simp [e]
    rw [hS] at iv''
    refine ih _ φ' a' w' b'' (by simpa using hsz) ?_ iv'' hbe''
    have hf : listed.toList[i]? = some false := by
      have hl : i < listed.size := by omega
      have hd : listed.getD i false = listed[i] := by simp [Array.getD, hl]
      rw [hd] at hnS
      simp [hl]
      simpa using hnS
    have := count_set hf
    rw [Array.toList_setIfInBounds]; omega

theorem allSome_get {α : Type} : ∀ {l : List (Option α)} {r : List α}, allSome l = some r → l = r.map some
  | [], r, h => by simp [allSome] at h; subst h; rfl
  | none :: l, r, h => by simp [allSome] at h
  | some x :: l, r, h => by
    simp only [allSome] at h
    split at h
    · rename_i r' hr
      simp only [Option.some.injEq] at h; subst h
      rw [allSome_get hr]; rfl
    · simp at h

theorem runs_of : ∀ {L : List AOper} {s : St} {out : Out}, evOps call L s = some out → ∃ (N : Nat) (st : Nat → St), st 0 = s ∧ N ≤ L.length ∧ (∀ (j : Nat) (o : AOper), j < N → L[j]? = some o → stepO call o (st j) = some (.normal (st (j + 1)))) ∧
    ((N = L.length ∧ out = .normal (st N)) ∨ (N < L.length ∧ (∀ s', out ≠ .normal s') ∧ ∀ o, L[N]? = some o → stepO call o (st N) = some out))
  | [], s, out, h => by
    rw [evOps_nil, Option.some.injEq] at h; subst h
    exact ⟨0, fun _ => s, rfl, Nat.le_refl _, fun j o h => absurd h (by omega), .inl ⟨rfl, rfl⟩⟩
  | o :: L, s, out, h => by
    rw [evOps_cons] at h
    obtain ⟨r, hr, h⟩ := ob_eq h
    have stop : (∀ s', r ≠ .normal s') → r = out → ∃ (N : Nat) (st : Nat → St), st 0 = s ∧ N ≤ (o :: L).length ∧ (∀ (j : Nat) (o' : AOper), j < N → (o :: L)[j]? = some o' → stepO call o' (st j) = some (.normal (st (j + 1)))) ∧
        ((N = (o :: L).length ∧ out = .normal (st N)) ∨ (N < (o :: L).length ∧ (∀ s', out ≠ .normal s') ∧ ∀ o', (o :: L)[N]? = some o' → stepO call o' (st N) = some out)) := by
      intro hno he
      subst he
      refine ⟨0, fun _ => s, rfl, by simp, fun j o' hj => absurd hj (by omega), .inr ⟨by simp, hno, fun o' ho' => ?_⟩⟩
      simp only [List.getElem?_cons_zero, Option.some.injEq] at ho'; subst ho'; exact hr
    cases r with
    | normal s1 =>
      obtain ⟨N, st, h1, h2, h3, h4⟩ := runs_of h
      refine ⟨N + 1, fun j => match j with | 0 => s | j + 1 => st j, rfl, by simp; omega, fun j o' hj ho' => ?_, ?_⟩
      · cases j with
        | zero =>
          simp only [List.getElem?_cons_zero, Option.some.injEq] at ho'; subst ho'
          simp only; rw [h1]; exact hr
        | succ j => exact h3 j o' (by omega) (by simpa using ho')
      · rcases h4 with ⟨g1, g2⟩ | ⟨g1, g2, g3⟩
        · exact .inl ⟨by simp [g1], g2⟩
        · exact .inr ⟨by simpa using g1, g2, fun o' ho' => g3 o' (by simpa using ho')⟩
    | exit id s1 => exact stop (by simp) (by simpa using h)
    | ret s1 => exact stop (by simp) (by simpa using h)
    | panic ch s1 => exact stop (by simp) (by simpa using h)

theorem dstL_mem {L : List AOper} {o : AOper} {d : Pos} (h : o ∈ L) (hd : o.dst = some d) : d ∈ dstL L := by
  induction L with
  | nil => simp at h
  | cons x L ih =>
    show d ∈ (match x.dst with | some p => p :: dstL L | none => dstL L)
    rcases List.mem_cons.1 h with rfl | h
    · rw [hd]; simp
    · have := ih h
      split <;> simp [this]
theorem draw_wp (hc : CallOk P B.w0 call) (hnt : B.nt = nt) {L : List AOper} (hL : trDraw P nt ops = some L) (sr : SR B φ s a cs w) (he : evOps call L s = some out)
    : wpAny P .any ops (fun e a w => OutR B (outX true L out) e a cs w) ops.size (Array.replicate ops.size false) a { w with drawn := w.drawn + 1 } := by
  unfold trDraw at hL
  simp only at hL
  split at hL
  case isFalse => simp at hL
  rename_i hok
  have pl := plan_of hok
  generalize hcdef : asap ops.size _ _ ops.size 0 [] = c at hL hok pl
  have hLm := allSome_get hL
  have mp : ∀ {i : Nat} {o : Oper}, ops[i]? = some o → (ops.map (trOper P nt ops))[i]? = some (trOper P nt ops o) := by intro i o h; simp [h]
  have hlen : L.length = c.length := by
    have := congrArg List.length hLm
    simpa using this.symm
  obtain ⟨N, st, h0, hN, hstep, hfin⟩ := runs_of he
  let re : Nat → List Re := fun j => ((L[j]?).map (·.re)).getD []
  have hget : ∀ (j i : Nat) (o : Oper), c[j]? = some i → ops[i]? = some o → L[j]? = some { trOper P nt ops o with re := re j } ∧ (isEff (trOper P nt ops o).op = true → rechecks (ops.map (trOper P nt ops)) (fun i => (Region.before ops).getD i 0) i c = some (re j)) := by
    intro j i o hi ho
    have hj : j < L.length := by
      rw [hlen]
      rcases Nat.lt_or_ge j c.length with h' | h'
      · exact h'
      · rw [List.getElem?_eq_none h'] at hi; simp at hi
    have h1 := congrArg (fun l => l[j]?) hLm
    simp only [List.getElem?_map, hi, Option.map_some, mp ho] at h1
    have hLj : L[j]? = some L[j] := List.getElem?_eq_getElem hj
    rw [hLj] at h1 ⊢
    have hrej : re j = L[j].re := by simp only [re, hLj, Option.map_some, Option.getD_some]
    simp only [Option.map_some, Option.some.injEq] at h1
    split at h1
    · obtain ⟨r, hr, h1⟩ := Option.map_eq_some_iff.1 h1
      rw [← h1] at hrej ⊢
      simp only at hrej
      exact ⟨by rw [hrej], fun _ => by rw [hr, hrej]⟩
    · rename_i hne
      simp only [Option.some.injEq] at h1
      rw [← h1] at hrej ⊢
      refine ⟨by rw [hrej], fun h => absurd h hne⟩
  have ru : Runs P nt ops call c re N st out := by
    refine ⟨by omega, fun j i o hj hi ho => hstep j _ hj (hget j i o hi ho).1, ?_⟩
    rcases hfin with ⟨h1, h2⟩ | ⟨h1, h2, h3⟩
    · exact .inl ⟨by omega, h2⟩
    · exact .inr ⟨by omega, h2, fun i o hi ho => h3 _ (hget N i o hi ho).1⟩
  have sd := Same.drew w
  have iv : Inv P nt ops (fun i => (Region.before ops).getD i 0) c N st B (fun k => (Array.replicate ops.size false).getD k false = true) φ a cs { w with drawn := w.drawn + 1 } 0 := by
    have hF : ∀ k, ¬ ((Array.replicate ops.size false).getD k false = true) := by
      intro k
      simp [Array.getD_eq_getD_getElem?, Array.getElem?_replicate]
      split <;> simp
    refine ⟨Nat.zero_le _, fun i k h => absurd h (hF i), fun j i _ h => absurd h (hF i), fun j i o h => absurd h (by omega), by rw [h0]; exact sd.rel sr.rel, by rw [h0]; exact sr.ext.trans sd.ext, by rw [h0]; exact sr.df, by rw [h0]; exact sr.cs, by rw [h0]; exact sr.dd, by rw [← hnt]; exact sr.fr.size, by rw [h0]; exact sr.ext.nx, ?_, ?_, fun j i o k vk q h => absurd h (by omega), fun j i o q v h => absurd h (by omega)⟩
    · intro j1 j2 g1 g2
      have e1 : j1 = 0 := by omega
      have e2 : j2 = 0 := by omega
      rw [e1, e2]; exact Nat.le_refl _
    · intro t v j hj hcond hv
      rw [ru.keep pl j (Nat.zero_le _) hj (fun j' i o g1 g2 hi ho hd => absurd ((hcond j' i o hi ho hd).1 g2) (hF i)), h0] at hv
      exact sr.fr.val t v hv
  obtain ⟨b', iv', hbe'⟩ := iv.advance pl ru _ 0 rfl
  have hdl : ∀ (i : Nat) (o : Oper) (d : Pos), ops[i]? = some o → (trOper P nt ops o).dst = some d → d ∈ dstL L := by
    intro i o d ho hd
    have hlt : i < ops.size := by
      rcases Nat.lt_or_ge i ops.size with h' | h'
      · exact h'
      · rw [Array.getElem?_eq_none h'] at ho; simp at ho
    obtain ⟨j, hj⟩ := pl.mem i hlt
    have hm := List.mem_of_getElem? (hget j i o hj ho).1
    exact dstL_mem hm hd
  rw [outX_true]
  refine draw_any hc hnt pl ru (fun j i o hi ho => (hget j i o hi ho).2) hdl _ _ φ a _ b' (by simp) ?_ iv' hbe'
  simp
theorem draw_region (hc : CallOk P B.w0 call) (hnt : B.nt = nt) (hP : P.follows .mixedOrders = true) {L : List AOper} (hL : trDraw P nt ops = some L) (sr : SR B φ s a cs w) (he : evOps call L s = some out)
    (id : Nat) : (Code.region id ops true).wp P (fun e a w => OutR B (outX true L out) e a cs w) a w :=
  wp_region_any hP (draw_wp hc hnt hL sr he)
end
end Go.Proofs.YtcoldhmbmcdemaaGreat.Ev

namespace Go.Proofs.YtcoldhmbmcdemaaGreat.Ev
open Go
variable [Rho]
section
variable {P : Program} {nt : Nat} {ops : Array Oper} {call : CallF} {out : Out}
variable {B : Base} {φ φ' : Phi} {s : St} {a : Act} {cs : List Frame} {w w' : World}

theorem drawX_region (hc : CallOk P B.w0 call) (hnt : B.nt = nt) (hP : P.follows .mixedOrders = true) {L : List AOper} (hL : trDrawX P nt ops = some L) (sr : SR B φ s a cs w) (he : evOps call L s = some out)
    (id : Nat) : (Code.region id ops true).wp P (fun e a w => OutR B (outX true L out) e a cs w) a w := by
  exact draw_region hc hnt hP hL sr he id
end
end Go.Proofs.YtcoldhmbmcdemaaGreat.Ev
