/- A framework for walks: Code. Functions: what the evaluator answers, the model answers. Functions: the theorem. The walk of a law, out of the evaluator's answer. A table of functions, as a tree. Fast words: what a value is asked by recursors whose alternatives are closed, each with what goes on behind it. A second evaluator, by continuations: frames are cut down where code joins, and what comes out of memory and of calls is taken by its kind. What it answers, the first one answers. What the second evaluator answers, the first one answers. What the second evaluator answers, the first one answers: lists, code, functions, the table. The words of the printed functions. Calls whose answer is known: each was run once in a heap of its own; what it leaves behind is taken over, whatever the heap. strings.Contains as a function whose answer is known; package-level variable 0, a number, may hold whatever. Awake and its like: functions without arguments that answer a truth value. -/
import Derived.Test.YtmoabbfdehaenaaGreatDoorFd
import Derived.Maps.RangeRun
import Derived.RowKit3
import Derived.ProofKit
import Derived.ChangeSame
import Derived.Lib.IndexMore
set_option linter.unusedVariables false
set_option linter.unusedSimpArgs false
set_option linter.unusedSectionVars false
namespace Go.Proofs.YtmoabbfdehaenaaGreatDoor.Ev
open Go
variable [Rho]
section
variable {P : Program} {call : CallF} {B : Base}

theorem evC_seq (n : Nat) (x y : ACode) (s : St) : evC call n (.seq x y) s = ob (evC call n x s) fun r => match r with | .normal s' => evC call n y s' | r => some r := rfl
theorem evC_cond (n : Nat) (c : Opd) (x y : ACode) (s : St) : evC call n (.cond c x y) s = ob (opv s.fr c) fun v => match v with | .bool true => evC call n x s | .bool false => evC call n y s | _ => none := rfl
theorem evC_block (n : Nat) (id : Nat) (x : ACode) (s : St) : evC call n (.block id x) s = ob (evC call n x s) fun r => match r with | .exit i s' => bif Nat.beq i id then some (.normal s') else some (.exit i s') | r => some r := rfl
theorem evC_loop (n : Nat) (x : ACode) (s : St) : evC call n (.loop x) s = loopN (evC call n x) n s := rfl
theorem evC_scope (n : Nat) (x : ACode) (s : St) : evC call n (.scope x) s = evC call n x s := rfl
theorem evC_ops (n : Nat) (d : Bool) (l : List AOper) (s : St) : evC call n (.ops d l) s = ob (evOps call l s) fun r => some (outX d l r) := rfl
theorem loopN_succ (body : St → Option Out) (n : Nat) (s : St) : loopN body (n + 1) s = ob (body s) fun r => match r with | .normal s' => loopN body n s' | r => some r := rfl

def Goes (P : Program) (B : Base) (c : Code) (out : Out) (a : Act) (cs : List Frame) (w : World) : Prop :=
  ∀ (b : Frame) (k : List Item), (B.D = true → b.kind = .deferred ∧ b.roundOf = none) → ∃ e a' cs' w', OutR B out e a' cs' w' ∧ Arrives P (lone (b.at a (.code c :: k)) cs w) b k cs' e a' w'

theorem range_ops (ops : Array Oper) : (List.range ops.size).map (ops[·]?) = ops.toList.map some := by
  apply List.ext_getElem?
  intro i
  simp only [List.getElem?_map]
  by_cases h : i < ops.size
  · rw [List.getElem?_range h]; simp [h]
  · rw [List.getElem?_eq_none (by simpa using h), List.getElem?_eq_none (by simpa using h)]; rfl

theorem code_ok (hc : CallOk P B.w0 call) (hP : P.follows .mixedOrders = true) (n : Nat) : ∀ (c : Code) (s : St) (φ : Phi) (a : Act) (cs : List Frame) (w : World) (out : Out), SR B φ s a cs w → evC call n (trCode P B.nt c) s = some out → Goes P B c out a cs w
  | .skip, s, φ, a, cs, w, out, sr, he => by
    have he : some (Out.normal s) = some out := he
    simp only [Option.some.injEq] at he; subst he
    exact fun b k _ => ⟨.normal, a, cs, w, ⟨rfl, φ, sr⟩, .one step_skip⟩
  | .region id ops draw, s, φ, a, cs, w, out, sr, he => by
    simp only [trCode, evC_ops] at he
    obtain ⟨r, hr, he⟩ := ob_eq he
    simp only [Option.some.injEq] at he
    subst he
    cases draw with
    | false =>
      have hr : evOps call (ops.toList.map (trOper P B.nt ops)) s = some r := hr
      have e0 : ∀ L, outX false L r = r := fun L => by cases r <;> rfl
      rw [e0]
      cases hD : B.D with
      | false =>
        have := seq_wp hc rfl hD (List.range ops.size) ops.toList φ s a w r (range_ops ops) sr hr
        intro b k _
        obtain ⟨e, a', w', h1, h2⟩ := wp_region (id := id) this b k cs
        exact ⟨e, a', cs, w', h1, h2⟩
      | true =>
        have := seq_wpS hc rfl hD (List.range ops.size) ops.toList φ s a cs w r (range_ops ops) sr hr
        intro b k hb
        exact wpS_region (id := id) this b k (hb hD).1 (hb hD).2
    | true =>
      have hr : evOps call ((trDrawX P B.nt ops).getD [⟨none, .bad, none, []⟩]) s = some r := hr
      cases hL : trDrawX P B.nt ops with
      | none =>
        rw [hL] at hr
        simp [evOps_cons, stepO, wantedA, ob_some, evOp, evOpC] at hr
        simp [ob] at hr
      | some L =>
        rw [hL] at hr
        intro b k _
        obtain ⟨e, a', w', h1, h2⟩ := drawX_region hc rfl hP hL sr hr id b k cs
        rw [show trRegion P B.nt ops true = L from by show (trDrawX P B.nt ops).getD _ = L; rw [hL]; rfl]
        exact ⟨e, a', cs, w', h1, h2⟩
  | .seq x y, s, φ, a, cs, w, out, sr, he => by
    simp only [trCode, evC_seq] at he
    obtain ⟨r, hr, he⟩ := ob_eq he
    intro b k hb
    obtain ⟨e, a₁, cs₁, w₁, hq, harr⟩ := code_ok hc hP n x s φ a cs w r sr hr b (.code y :: k) hb
    cases r with
    | normal s' =>
      obtain ⟨rfl, φ', sr'⟩ := hq
      obtain ⟨e₂, a₂, cs₂, w₂, hq₂, harr₂⟩ := code_ok hc hP n y s' φ' a₁ cs₁ w₁ out sr' he b k hb
      exact ⟨e₂, a₂, cs₂, w₂, hq₂, .of_steps (.head step_seq harr) harr₂⟩
    | exit id s' =>
      simp only [Option.some.injEq] at he; subst he
      obtain ⟨rfl, hq⟩ := hq
      exact ⟨_, a₁, cs₁, w₁, ⟨rfl, hq⟩, .of_steps (.one step_seq) (.pass (x := .code y) rfl (fun _ _ => .inl (by simp)) harr)⟩
    | ret s' =>
      simp only [Option.some.injEq] at he; subst he
      obtain ⟨rfl, hq⟩ := hq
      exact ⟨_, a₁, cs₁, w₁, ⟨rfl, hq⟩, .of_steps (.one step_seq) (.pass (x := .code y) rfl (fun _ _ => .inl (by simp)) harr)⟩
    | panic c s' =>
      simp only [Option.some.injEq] at he; subst he
      obtain ⟨ch, φ', rfl, hq⟩ := hq
      exact ⟨_, a₁, cs₁, w₁, ⟨ch, φ', rfl, hq⟩, .of_steps (.one step_seq) (.pass (x := .code y) rfl (fun _ _ => .inl (by simp)) harr)⟩
  | .cond c x y, s, φ, a, cs, w, out, sr, he => by
    simp only [trCode] at he
    split at he
    · rename_i c' hc'
      rw [evC_cond] at he
      obtain ⟨v, hv, he⟩ := ob_eq he
      have hr := opdRel sr.fr c c' v hc' hv
      intro b k hb
      split at he
      · have ht : a.eval c = .bool true := by
          cases h : a.eval c <;> rw [h] at hr <;> cases hr; rfl
        obtain ⟨e, a', cs', w', q, r⟩ := code_ok hc hP n x s φ a cs w out sr he b k hb
        exact ⟨e, a', cs', w', q, .of_steps (.one (step_cond ht)) r⟩
      · have ht : a.eval c = .bool false := by
          cases h : a.eval c <;> rw [h] at hr <;> cases hr; rfl
        obtain ⟨e, a', cs', w', q, r⟩ := code_ok hc hP n y s φ a cs w out sr he b k hb
        exact ⟨e, a', cs', w', q, .of_steps (.one (step_cond ht)) r⟩
      · simp at he
    · exact absurd he (by show ¬ (none = some out); simp)
  | .block id x, s, φ, a, cs, w, out, sr, he => by
    simp only [trCode] at he
    rw [evC_block] at he
    obtain ⟨r, hr, he⟩ := ob_eq he
    intro b k hb
    obtain ⟨e, a₁, cs₁, w₁, hq, harr⟩ := code_ok hc hP n x s φ a cs w r sr hr b (.inBlock id :: k) hb
    cases r with
    | normal s' =>
      simp only [Option.some.injEq] at he; subst he
      obtain ⟨rfl, hq⟩ := hq
      exact ⟨.normal, a₁, cs₁, w₁, ⟨rfl, hq⟩, .head step_block (Steps.trans harr (.one step_inBlock))⟩
    | exit id' s' =>
      obtain ⟨rfl, hq⟩ := hq
      simp only at he
      cases hid : Nat.beq id' id with
      | true =>
        rw [hid] at he
        simp only [cond_true, Option.some.injEq] at he; subst he
        have := Nat.eq_of_beq_eq_true hid
        subst this
        exact ⟨.normal, a₁, cs₁, w₁, ⟨rfl, hq⟩, .head step_block (harr k (by simp [exitTo]))⟩
      | false =>
        rw [hid] at he
        simp only [cond_false, Option.some.injEq] at he; subst he
        refine ⟨.exit id', a₁, cs₁, w₁, ⟨rfl, hq⟩, fun k' hk => .head step_block (harr k' ?_)⟩
        have : (id == id') = false := by
          simp only [beq_eq_false_iff_ne]
          intro e; subst e
          rw [Nat.beq_refl] at hid; simp at hid
        simp [exitTo, this, hk]
    | ret s' =>
      simp only [Option.some.injEq] at he; subst he
      obtain ⟨rfl, hq⟩ := hq
      exact ⟨_, a₁, cs₁, w₁, ⟨rfl, hq⟩, .of_steps (.one step_block) harr⟩
    | panic c s' =>
      simp only [Option.some.injEq] at he; subst he
      obtain ⟨ch, φ', rfl, hq⟩ := hq
      exact ⟨_, a₁, cs₁, w₁, ⟨ch, φ', rfl, hq⟩, .of_steps (.one step_block) harr⟩
  | .loop x, s, φ, a, cs, w, out, sr, he => by
    simp only [trCode, evC_loop] at he
    have key : ∀ (m : Nat) (s : St) (φ : Phi) (a : Act) (cs : List Frame) (w : World), SR B φ s a cs w → loopN (evC call n (trCode P B.nt x)) m s = some out → ∀ (b : Frame) (k : List Item), (B.D = true → b.kind = .deferred ∧ b.roundOf = none) →
        ∃ e a' cs' w', OutR B out e a' cs' w' ∧ Arrives P (lone (b.at a (.code x :: .inLoop x :: k)) cs w) b k cs' e a' w' := by
      intro m
      induction m with
      | zero => intro s φ a cs w sr he; exact absurd he (by show ¬ (none = some out); simp)
      | succ m ih =>
        intro s φ a cs w sr he b k hb
        rw [loopN_succ] at he
        obtain ⟨r, hr, he⟩ := ob_eq he
        obtain ⟨e, a₁, cs₁, w₁, hq, harr⟩ := code_ok hc hP n x s φ a cs w r sr hr b (.inLoop x :: k) hb
        cases r with
        | normal s' =>
          obtain ⟨rfl, φ', sr'⟩ := hq
          obtain ⟨e₂, a₂, cs₂, w₂, hq₂, harr₂⟩ := ih s' φ' a₁ cs₁ w₁ sr' he b k hb
          exact ⟨e₂, a₂, cs₂, w₂, hq₂, .of_steps (Steps.trans harr (.one step_inLoop)) harr₂⟩
        | exit id s' =>
          simp only [Option.some.injEq] at he; subst he
          obtain ⟨rfl, hq⟩ := hq
          exact ⟨_, a₁, cs₁, w₁, ⟨rfl, hq⟩, .pass (x := .inLoop x) rfl (fun _ _ => .inl (by simp)) harr⟩
        | ret s' =>
          simp only [Option.some.injEq] at he; subst he
          obtain ⟨rfl, hq⟩ := hq
          exact ⟨_, a₁, cs₁, w₁, ⟨rfl, hq⟩, .pass (x := .inLoop x) rfl (fun _ _ => .inl (by simp)) harr⟩
        | panic c s' =>
          simp only [Option.some.injEq] at he; subst he
          obtain ⟨ch, φ', rfl, hq⟩ := hq
          exact ⟨_, a₁, cs₁, w₁, ⟨ch, φ', rfl, hq⟩, .pass (x := .inLoop x) rfl (fun _ _ => .inl (by simp)) harr⟩
    intro b k hb
    obtain ⟨e, a', cs', w', hq, harr⟩ := key n s φ a cs w sr he b k hb
    exact ⟨e, a', cs', w', hq, .of_steps (.one step_loop) harr⟩
  | .scope x, s, φ, a, cs, w, out, sr, he => by
    simp only [trCode, evC_scope] at he
    intro b k hb
    obtain ⟨e, a₁, cs₁, w₁, hq, harr⟩ := code_ok hc hP n x s φ a cs w out sr he b (.inScope x :: k) hb
    cases out with
    | normal s' =>
      obtain ⟨rfl, hq⟩ := hq
      exact ⟨.normal, a₁, cs₁, w₁, ⟨rfl, hq⟩, .head step_scope (Steps.trans harr (.one step_inScope))⟩
    | exit id s' =>
      obtain ⟨rfl, hq⟩ := hq
      exact ⟨.exit id, a₁, cs₁, w₁, ⟨rfl, hq⟩, fun k' hk => .head step_scope (harr k' (by simp [exitTo, hk]))⟩
    | ret s' =>
      obtain ⟨rfl, hq⟩ := hq
      exact ⟨_, a₁, cs₁, w₁, ⟨rfl, hq⟩, .of_steps (.one step_scope) harr⟩
    | panic c s' =>
      obtain ⟨ch, φ', rfl, hq⟩ := hq
      exact ⟨_, a₁, cs₁, w₁, ⟨ch, φ', rfl, hq⟩, .of_steps (.one step_scope) harr⟩
  | .exit id, s, φ, a, cs, w, out, sr, he => by
    have he : some (Out.exit id s) = some out := he
    simp only [Option.some.injEq] at he; subst he
    exact fun b k _ => ⟨.exit id, a, cs, w, ⟨rfl, φ, sr⟩, fun _ hk => .one (step_exit hk)⟩
  | .ret, s, φ, a, cs, w, out, sr, he => by
    have he : some (Out.ret s) = some out := he
    simp only [Option.some.injEq] at he; subst he
    exact fun b k _ => ⟨.ret, a, cs, w, ⟨rfl, φ, sr⟩, _, .one step_ret⟩
  | .goto l, s, φ, a, cs, w, out, sr, he => absurd he (by show ¬ (none = some out); simp)
  | .label l, s, φ, a, cs, w, out, sr, he => by
    have he : some (Out.normal s) = some out := he
    simp only [Option.some.injEq] at he; subst he
    exact fun b k _ => ⟨.normal, a, cs, w, ⟨rfl, φ, sr⟩, .one step_label⟩
  | .rangeFunc _ _ _ _, s, φ, a, cs, w, out, sr, he => absurd he (by show ¬ (none = some out); simp)
  | .refuse _, s, φ, a, cs, w, out, sr, he => absurd he (by show ¬ (none = some out); simp)
end
end Go.Proofs.YtmoabbfdehaenaaGreatDoor.Ev

namespace Go.Proofs.YtmoabbfdehaenaaGreatDoor.Ev
open Go
variable [Rho]
section
variable {P : Program} {X : Prims} {F : Tab} {w0 : World} {φ ψ : Phi} {h h' : HP} {w w' : World}

theorem evF_zero (f : Nat) (as : List AV) (h : HP) (u : AMode) : evF X F 0 f as h u = none := rfl
theorem evF_succ (n f : Nat) (as : List AV) (h : HP) (u : AMode) : evF X F (n + 1) f as h u = (match X f with
    | none => ob (F f) fun fn => ob (evC (fun f args h => ob (evF X F n f args h .no) fun r => some r.1) n fn.body ⟨argsFr as .h .leaf, h, [], u⟩) fun o => finish (evF X F n) fn o
    | some p => match u with | .no => ob (p as h) fun r => some (.ret r.1 r.2, .no) | _ => none) := by
  have e : evF X F (n + 1) f as h u = Option.casesOn (motive := fun _ => Option (Fin × AMode)) (X f)
    (ob (F f) fun fn => ob (evC (fun f args h => ob (evF X F n f args h .no) fun r => some r.1) n fn.body ⟨argsFr as .h .leaf, h, [], u⟩) fun o => finish (evF X F n) fn o)
    (fun p => match u with | .no => ob (p as h) fun r => some (.ret r.1 r.2, .no) | _ => none) := rfl
  rw [e]
  cases X f with
  | none => rfl
  | some p => rfl

def TabOk (P : Program) (F : Tab) : Prop := ∀ f fn', F f = some fn' → ∃ fn, P.funcs[f]? = some fn ∧ trFn P fn = some fn'

theorem trFn_inv {fn : Func} {fn' : AFn} (h : trFn P fn = some fn') : ∃ c r, fn.body = some c ∧ trRes P fn.results.toList = some r ∧ fn.name ≠ "runtime.NumGoroutine" ∧ fn'.res = r ∧ fn'.body = trCode P fn.ntmps c := by
  unfold trFn at h
  split at h
  · rename_i c r hb hr
    split at h
    · rename_i hn
      simp only [Option.some.injEq] at h; subst h
      exact ⟨c, r, hb, hr, by simpa using hn, rfl, rfl⟩
    · simp at h
  · simp at h

theorem argsFr_get : ∀ (as : List AV) (k t : Nat) (tr : T AV), T.get (posOf t) (argsFr as (posOf k) tr) = if k ≤ t ∧ t < k + as.length then as[t - k]? else T.get (posOf t) tr
  | [], k, t, tr => by
    rw [if_neg (by simp)]; rfl
  | v :: as, k, t, tr => by
    have : argsFr (v :: as) (posOf k) tr = argsFr as (posOf (k + 1)) (T.set v (posOf k) tr) := rfl
    rw [this, argsFr_get as (k + 1) t]
    simp only [List.length_cons]
    by_cases e : t = k
    · subst e
      rw [if_neg (by omega), T.get_set_same, if_pos (by omega)]; simp
    · by_cases h : k + 1 ≤ t ∧ t < k + 1 + as.length
      · rw [if_pos h, if_pos (by omega)]
        rw [show t - k = (t - (k + 1)) + 1 from by omega]; simp
      · rw [if_neg h, if_neg (by omega), T.get_set_ne]
        intro e'; exact e (posOf_inj e')

theorem enter_fr {vs : List Value} {as : List AV} (hl : Rho.gphi.le φ) (hv : RVs φ vs as) (nt : Nat) : FrRel φ nt (vs.toArray ++ Array.replicate (nt - vs.toArray.size) undef) (argsFr as .h .leaf) := by
  refine ⟨hl, by simp; omega, fun t a ht => ?_⟩
  have hl := hv.length
  rw [show Pos.h = posOf 0 from rfl, argsFr_get] at ht
  split at ht
  · rename_i h
    obtain ⟨v, h1, h2⟩ := hv.get ht
    have : (vs.toArray ++ Array.replicate (nt - vs.toArray.size) undef).getD t undef = v := by
      rw [Array.getD_eq_getD_getElem?, Array.getElem?_append_left (by simp; omega)]
      have : vs[t]? = some v := by simpa using h1
      simp [this]
    rw [this]; exact h2
  · rw [get_leaf] at ht; simp at ht

theorem mapM_runL {α : Type} {f : α → Sem Value} : ∀ {l : List α} {vs : List Value}, l.length = vs.length → (∀ (i : Nat) (x : α) (v : Value), l[i]? = some x → vs[i]? = some v → (f x).run P w = .ok v w) → (l.mapM f).run P w = .ok vs w
  | [], [], _, _ => by simp
  | [], _ :: _, h, _ => by simp at h
  | _ :: _, [], h, _ => by simp at h
  | x :: l, v :: vs, hl, h => by
    rw [List.mapM_cons]
    have h1 := h 0 x v rfl rfl
    have h2 := mapM_runL (l := l) (vs := vs) (f := f) (by simpa using hl) fun i x v hx hv => h (i + 1) x v (by simpa using hx) (by simpa using hv)
    simp only [Sem.run_bind, h1, Result.andThen_ok, h2, Sem.run_pure]

def resOne (tmps : Array Value) : ResultVar → Sem Value
  | .tmp t => pure (tmps.getD t undef)
  | .cell a t => do loadVar t (← asAddr (tmps.getD a undef))
theorem results_eq (fn : Func) (tmps : Array Value) : Go.results fn tmps = (do
  let vs ← fn.results.mapM (resOne tmps)
  pure (if h : vs.size = 1 then vs[0] else .tuple vs)) := rfl

theorem load_asAddr {z u : Value} {b : Pos} {o : Nat} {t : TypeId} (hr : RV φ z (.ptr b o)) (h : (Instr.loadAt t z).run P w = .ok u w) : (do loadVar t (← asAddr z) : Sem Value).run P w = .ok u w := by
  rw [← h]
  cases hr
  simp [Instr.loadAt, Instr.sureAddr, asAddr]

theorem resV_ok {nt : Nat} {tmps : Array Value} {fr : T AV} (hf : FrRel φ nt tmps fr) (r : Rel w0 φ h w) : ∀ {rs : List ResultVar} {as : List ARes} {vs : List AV}, trRes P rs = some as → mapO (fun r => resV r fr h) as = some vs →
    ∃ us : List Value, rs.length = us.length ∧ RVs φ us vs ∧ ∀ (i : Nat) (x : ResultVar) (v : Value), rs[i]? = some x → us[i]? = some v →
      (resOne tmps x).run P w = .ok v w
  | [], as, vs, ht, hm => by
    simp only [trRes, Option.some.injEq] at ht; subst ht
    have : vs = [] := by simpa [mapO_nil] using hm.symm
    subst this
    exact ⟨[], rfl, .nil, by simp⟩
  | x :: rs, as, vs, ht, hm => by
    have fin : ∀ {ar : ARes} {as' : List ARes} {v : AV} {u : Value}, as = ar :: as' → trRes P rs = some as' → resV ar fr h = some v → RV φ u v →
        ((resOne tmps x).run P w = .ok u w) →
        ∃ us : List Value, (x :: rs).length = us.length ∧ RVs φ us vs ∧ ∀ (i : Nat) (x' : ResultVar) (v : Value), (x :: rs)[i]? = some x' → us[i]? = some v →
          (resOne tmps x').run P w = .ok v w := by
      intro ar as' v u e1 e2 e3 e4 e5
      subst e1
      rw [mapO_cons, e3] at hm
      obtain ⟨vs', hvs, hm⟩ := Option.map_eq_some_iff.1 hm
      obtain ⟨us, h1, h2, h3⟩ := resV_ok hf r e2 hvs
      rw [← hm]
      refine ⟨u :: us, by simp [h1], .cons _ _ _ _ e4 h2, fun i x' v' hx hv => ?_⟩
      cases i with
      | zero =>
        simp only [List.getElem?_cons_zero, Option.some.injEq] at hx hv
        subst hx hv; exact e5
      | succ i => exact h3 i x' v' (by simpa using hx) (by simpa using hv)
    cases x with
    | tmp t =>
      simp only [trRes, Option.map_eq_some_iff] at ht
      obtain ⟨as', h1, rfl⟩ := ht
      rw [mapO_cons] at hm
      obtain ⟨v, hv, _⟩ := Option.bind_eq_some_iff.1 hm
      exact fin rfl h1 hv (hf.val t v hv) (by simp [resOne])
    | cell a t =>
      simp only [trRes] at ht
      split at ht
      · rename_i n as' ha hs h1
        simp only [Option.some.injEq] at ht
        rw [← ht, mapO_cons] at hm
        obtain ⟨v, hv, _⟩ := Option.bind_eq_some_iff.1 hm
        simp only [resV, evL] at hv
        obtain ⟨x, hx, hv'⟩ := ob_eq hv
        have hr := hf.val a x hx
        have hv0 := hv'
        unfold cellsV at hv'
        split at hv'
        · obtain ⟨k, hk, hv'⟩ := ob_eq hv'
          split at hv'
          · obtain ⟨q, hq, hv'⟩ := ob_eq hv'
            simp only [Option.some.injEq] at hv'
            obtain ⟨u, g1, g2⟩ := load_cells r ha hs hr hk hq
            rw [hv'] at g2
            exact fin ht.symm h1 hv g2 (load_asAddr hr g1)
          · simp at hv'
        · simp at hv'
      · rename_i n as' ha hs h1
        simp only [Option.some.injEq] at ht
        rw [← ht, mapO_cons] at hm
        obtain ⟨v, hv, _⟩ := Option.bind_eq_some_iff.1 hm
        simp only [resV, evL] at hv
        obtain ⟨x, hx, hv'⟩ := ob_eq hv
        have hr := hf.val a x hx
        unfold cellV at hv'
        split at hv'
        · obtain ⟨k, hk, hv'⟩ := ob_eq hv'
          split at hv'
          · rw [nth_eq] at hv'
            obtain ⟨u, g1, g2⟩ := load_cell r ha hr hk hv'
            exact fin ht.symm h1 hv g2 (load_asAddr hr g1)
          · simp at hv'
        · simp at hv'
      · simp at ht

theorem results_ok {fn : Func} {nt : Nat} {tmps : Array Value} {fr : T AV} (hf : FrRel φ nt tmps fr) (r : Rel w0 φ h w) {rs : List ARes} {v : AV} (ht : trRes P fn.results.toList = some rs) (hv : Ev.results rs fr h = some v) :
    ∃ u, (Go.results fn tmps).run P w = .ok u w ∧ RV φ u v := by
  unfold Ev.results at hv
  obtain ⟨vs, hvs, hv⟩ := ob_eq hv
  obtain ⟨us, h1, h2, h3⟩ := resV_ok hf r ht hvs
  have hm : (fn.results.mapM (resOne tmps)).run P w = .ok us.toArray w := by
    rw [Array.mapM_eq_mapM_toList]
    have := mapM_runL (P := P) (w := w) h1 h3
    simp [this]
  refine ⟨if h : us.toArray.size = 1 then us.toArray[0] else .tuple us.toArray, ?_, ?_⟩
  · rw [results_eq, Sem.run_bind, hm]
    simp
  · split at hv
    · rename_i x
      simp only [Option.some.injEq] at hv; subst hv
      cases h2 with
      | cons u _ _ _ hu hs =>
        cases hs
        simpa using hu
    · rename_i hne
      simp only [Option.some.injEq] at hv; subst hv
      have : ¬ us.toArray.size = 1 := by
        intro e
        have hl := h2.length
        have : us.length = 1 := by simpa using e
        rw [this] at hl
        obtain ⟨x, hx⟩ := List.length_eq_one_iff.1 hl.symm
        exact hne x hx
      rw [dif_neg this]
      exact .tup _ _ (by simpa using h2)
end
end Go.Proofs.YtmoabbfdehaenaaGreatDoor.Ev

namespace Go.Proofs.YtmoabbfdehaenaaGreatDoor.Ev
open Go
variable [Rho]
section
variable {P : Program} {X : Prims} {F : Tab} {w0 : World} {φ ψ : Phi} {h h' : HP} {w w' : World}

def FinD (w0 : World) (φ : Phi) (h : HP) (w : World) (fin : Fin) (u' : AMode) : Ending → FrameMode → World → Prop
  | .returned _, m', w' => ∃ φ' a h', fin = .ret a h' ∧ MoRel φ' u' m' ∧ Rel w0 φ' h' w' ∧ Ext φ h w φ' h' w'
  | .panicked ch, m', w' => ∃ φ' c h', fin = .pan c h' ∧ ChRel φ' ch c ∧ MoRel φ' u' m' ∧ Rel w0 φ' h' w' ∧ Ext φ h w φ' h' w'
  | .outgrown, _, _ => False

def DefOk (P : Program) (w0 : World) (calld : CallD) : Prop :=
  ∀ f as h u fin u', calld f as h u = some (fin, u') → Callable P f ∧ ∀ φ w vs m, Rel w0 φ h w → RVs φ vs as → MoRel φ u m → CallsD P f vs.toArray m w (FinD w0 φ h w fin u')

theorem ChRel.drop {es : List PanicEntry} {c : Chain} (h : ChRel φ es c) : es.dropWhile (!·.goexit) = [] := by
  induction h with
  | nil => rfl
  | cons v b a es c h _ ih => simpa using ih
theorem MoRel.settle {u : AMode} {m : FrameMode} (h : MoRel φ u m) : MoRel φ (settleA u) (Go.settle m) := by
  cases h with
  | ret => exact .ret
  | pan es c hc =>
    cases hc with
    | nil => exact .pan _ _ .nil
    | cons v b a es c h hs =>
      cases b with
      | false => exact .pan _ _ (.cons _ _ _ _ _ h hs)
      | true =>
        have : Go.settle (.panicking ({ v, recovered := true, goexit := false } :: es)) = .returning := by
          simp [Go.settle, hs.drop]
        rw [this]; exact .ret
theorem MoRel.raised {u : AMode} {m : FrameMode} (h : MoRel φ u m) {es : List PanicEntry} {c : Chain} (hc : ChRel φ es c) : MoRel φ (raisedA u c) (Go.raised m es) := by
  cases h with
  | ret => exact .pan _ _ hc
  | pan es' c' hc' => exact .pan _ _ (hc.append hc')
theorem MoRel.run {u : AMode} {m : FrameMode} (h : MoRel φ u m) : m ≠ .run := by cases h <;> simp
theorem MoRel.no {u : AMode} {m : FrameMode} (h : MoRel φ u m) : u ≠ .no := by cases h <;> simp

theorem runDefers_nil (calld : CallD) (u : AMode) (h : HP) : runDefers calld [] u h = some (u, h) := rfl
theorem runDefers_cons (calld : CallD) (d : ADef) (ds : List ADef) (u : AMode) (h : HP) : runDefers calld (d :: ds) u h = ob (calld d.f d.args h u) fun r => match r.1 with
    | .ret _ h' => runDefers calld ds (settleA r.2) h'
    | .pan c h' => runDefers calld ds (raisedA r.2 c) h' := rfl

theorem leaves_ok {calld : CallD} (hd : DefOk P w0 calld) {fn : Func} {tmps : Array Value} {R : Ending → World → Prop} {u2 : AMode} {h2 : HP} : ∀ (df : List ADef) (u : AMode) (h : HP), runDefers calld df u h = some (u2, h2) →
    ∀ (φ : Phi) (ds : List Deferred) (m : FrameMode) (w : World), DfRel φ ds df → MoRel φ u m → Rel w0 φ h w →
    (∀ φ' w' m', Ext φ h w φ' h2 w' → Rel w0 φ' h2 w' → MoRel φ' u2 m' → Leaves P fn tmps R [] m' w') → Leaves P fn tmps R ds m w
  | [], u, h, he, φ, ds, m, w, hdf, hm, r, hR => by
    rw [runDefers_nil] at he
    simp only [Option.some.injEq, Prod.mk.injEq] at he
    obtain ⟨rfl, rfl⟩ := he
    cases hdf
    exact hR φ w m (.refl _ _ _) r hm
  | d :: df, u, h, he, φ, ds, m, w, hdf, hm, r, hR => by
    rw [runDefers_cons] at he
    obtain ⟨⟨fin, u'⟩, hc, he⟩ := ob_eq he
    obtain ⟨hcb, hcalls⟩ := hd _ _ _ _ _ _ hc
    cases hdf with
    | cons f cap args as ds df hv hs =>
      have hcl := hcalls φ w _ m r hv hm
      rw [Array.toArray_toList] at hcl
      refine leaves_cons hm.run (f := f) (args := args ++ cap) (by show (callFunc f (args ++ cap)).run P w = _; exact hcb.run _ _) (CallsD.mono hcl fun e m' w' hF => ?_)
      cases e with
      | returned v =>
        obtain ⟨φ', a, h', rfl, g1, g2, g3⟩ := hF
        exact leaves_ok hd df _ h' he φ' ds _ w' (hs.mono g3.le) g1.settle g2 fun φ'' w'' m'' k1 k2 k3 => hR φ'' w'' m'' (g3.trans k1) k2 k3
      | panicked ch =>
        obtain ⟨φ', c, h', rfl, g0, g1, g2, g3⟩ := hF
        exact leaves_ok hd df _ h' he φ' ds _ w' (hs.mono g3.le) (g1.raised g0) g2 fun φ'' w'' m'' k1 k2 k3 => hR φ'' w'' m'' (g3.trans k1) k2 k3
      | outgrown => exact hF.elim

noncomputable def finS (calld : CallD) (fn : AFn) (s : St) (m : AMode) : Option (Fin × AMode) :=
  match s.df, m with
  | [], .returning => ob (Ev.results fn.res s.fr s.h) fun v => some (.ret v s.h, s.u)
  | [], .panicking c => some (.pan c s.h, s.u)
  | ds, m => match s.u with
    | .no => ob (runDefers calld ds m s.h) fun r => match r.1 with
      | .returning => ob (Ev.results fn.res s.fr r.2) fun v => some (.ret v r.2, s.u)
      | .panicking c => some (.pan c r.2, s.u)
      | .no => none
    | _ => none
theorem finish_normal (calld : CallD) (fn : AFn) (s : St) : finish calld fn (.normal s) = finS calld fn s .returning := rfl
theorem finish_ret (calld : CallD) (fn : AFn) (s : St) : finish calld fn (.ret s) = finS calld fn s .returning := rfl
theorem finish_panic (calld : CallD) (fn : AFn) (s : St) (c : Chain) : finish calld fn (.panic c s) = finS calld fn s (.panicking c) := rfl
theorem finish_exit (calld : CallD) (fn : AFn) (s : St) (i : Nat) : finish calld fn (.exit i s) = none := rfl

theorem finS_leaves {calld : CallD} (hd : DefOk P w0 calld) {fn : Func} {fn' : AFn} {rs : List ARes} (hrs : trRes P fn.results.toList = some rs) (hres : fn'.res = rs) {s : St} {u : AMode} {fin : Fin} {u' : AMode} (he : finS calld fn' s u = some (fin, u'))
    (hu : u ≠ .no) {a : Act} {m : FrameMode} (hm : MoRel φ u m) (r : Rel w0 φ s.h w) (hdf : DfRel φ a.defers s.df) {nt : Nat} (hf : (u = .returning ∨ s.df ≠ []) → FrRel φ nt a.tmps s.fr) {φ0 : Phi} {h0 : HP} {w00 : World} (ext : Ext φ0 h0 w00 φ s.h w) :
    Leaves P fn a.tmps (FinR w0 φ0 h0 w00 fin) a.defers m w := by
  have ret : ∀ {φ' : Phi} {h' : HP} {w' : World} {v : AV}, FrRel φ nt a.tmps s.fr → φ.le φ' → Rel w0 φ' h' w' → Ext φ s.h w φ' h' w' → Ev.results fn'.res s.fr h' = some v → fin = .ret v h' → Leaves P fn a.tmps (FinR w0 φ0 h0 w00 fin) [] .returning w' := by
    intro φ' h' w' v hfr hle r' e' hv hfin
    obtain ⟨x, h1, h2⟩ := results_ok (hfr.mono hle) r' hrs (by rw [← hres]; exact hv)
    exact ⟨x, h1, φ', v, h', hfin, h2, r', ext.trans e'⟩
  cases hds : s.df with
  | nil =>
    rw [hds] at hdf
    have hnil : a.defers = [] := by cases hda : a.defers with
      | nil => rfl
      | cons x l => rw [hda] at hdf; cases hdf
    rw [hnil]
    unfold finS at he
    rw [hds] at he
    cases hm with
    | ret =>
      simp only at he
      obtain ⟨v, hv, he⟩ := ob_eq he
      simp only [Option.some.injEq, Prod.mk.injEq] at he
      exact ret (hf (.inl rfl)) (.refl _) r (.refl _ _ _) hv he.1.symm
    | pan es c hc =>
      simp only [Option.some.injEq, Prod.mk.injEq] at he
      exact ⟨φ, c, s.h, he.1.symm, hc, r, ext⟩
  | cons d dl =>
    have hfr := hf (.inr (by rw [hds]; simp))
    have he' : (match s.u with
        | .no => ob (runDefers calld (d :: dl) u s.h) fun r => match r.1 with
          | .returning => ob (Ev.results fn'.res s.fr r.2) fun v => some (.ret v r.2, s.u)
          | .panicking c => some (.pan c r.2, s.u)
          | .no => none
        | _ => none) = some (fin, u') := by
      rw [← he]; unfold finS; rw [hds]
    split at he'
    · obtain ⟨⟨u2, h2⟩, hrun, he'⟩ := ob_eq he'
      rw [← hds] at hrun
      refine leaves_ok hd s.df u s.h hrun φ a.defers m w hdf hm r fun φ' w' m' k1 k2 k3 => ?_
      simp only at he'
      cases k3 with
      | ret =>
        simp only at he'
        obtain ⟨v, hv, he'⟩ := ob_eq he'
        simp only [Option.some.injEq, Prod.mk.injEq] at he'
        exact ret hfr k1.le k2 k1 hv he'.1.symm
      | pan es c hc =>
        simp only [Option.some.injEq, Prod.mk.injEq] at he'
        exact ⟨φ', c, h2, he'.1.symm, hc, k2, ext.trans k1⟩
    · simp at he'

theorem finS_def {calld : CallD} {fn : Func} {fn' : AFn} {rs : List ARes} (hrs : trRes P fn.results.toList = some rs) (hres : fn'.res = rs) {s : St} {u : AMode} {fin : Fin} {u' : AMode} (he : finS calld fn' s u = some (fin, u')) (hsu : s.u ≠ .no)
    {a : Act} {m : FrameMode} (hm : MoRel φ u m) (r : Rel w0 φ s.h w) (hdf : DfRel φ a.defers s.df) {nt : Nat} (hf : u = .returning → FrRel φ nt a.tmps s.fr) {φ0 : Phi} {h0 : HP} {w00 : World} (ext : Ext φ0 h0 w00 φ s.h w) :
    a.defers = [] ∧ u' = s.u ∧ match m with
      | .returning => ∃ v, (Go.results fn a.tmps).run P w = .ok v w ∧ ∀ m', MoRel φ u' m' → FinD w0 φ0 h0 w00 fin u' (.returned v) m' w
      | .panicking ch => ∀ m', MoRel φ u' m' → FinD w0 φ0 h0 w00 fin u' (.panicked ch) m' w
      | .run => False := by
  cases hds : s.df with
  | nil =>
    rw [hds] at hdf
    have hnil : a.defers = [] := by cases hda : a.defers with
      | nil => rfl
      | cons x l => rw [hda] at hdf; cases hdf
    unfold finS at he
    rw [hds] at he
    cases hm with
    | ret =>
      simp only at he
      obtain ⟨v, hv, he⟩ := ob_eq he
      simp only [Option.some.injEq, Prod.mk.injEq] at he
      obtain ⟨x, h1, h2⟩ := results_ok (hf rfl) r hrs (by rw [← hres]; exact hv)
      exact ⟨hnil, he.2.symm, x, h1, fun m' hm' => ⟨φ, v, s.h, he.1.symm, hm', r, ext⟩⟩
    | pan es c hc =>
      simp only [Option.some.injEq, Prod.mk.injEq] at he
      exact ⟨hnil, he.2.symm, fun m' hm' => ⟨φ, c, s.h, he.1.symm, hc, hm', r, ext⟩⟩
  | cons d dl =>
    exfalso
    unfold finS at he
    rw [hds] at he
    cases hu : s.u with
    | no => exact hsu hu
    | _ => rw [hu] at he; simp at he

def PrOk (P : Program) (w0 : World) (f : Nat) (p : List AV → HP → Option (AV × HP)) : Prop :=
  Callable P f ∧ ∀ as r φ h w vs, p as h = some r → Rel w0 φ h w → RVs φ vs as → Calls P f vs.toArray w (FinR w0 φ h w (.ret r.1 r.2))
def XOk (P : Program) (w0 : World) (X : Prims) : Prop := ∀ f p, X f = some p → PrOk P w0 f p

theorem fun_ok (hP : P.follows .mixedOrders = true) (hX : XOk P w0 X) (hF : TabOk P F) : ∀ n, DefOk P w0 (evF X F n) ∧ CallOk P w0 (fun f as h => ob (evF X F n f as h .no) fun r => some r.1)
  | 0 => by
    constructor
    · intro f as h u fin u' he; rw [evF_zero] at he; simp at he
    · intro f as h fin he; obtain ⟨r, hr, _⟩ := ob_eq he; rw [evF_zero] at hr; simp at hr
  | n + 1 => by
    obtain ⟨ihd, ihc⟩ := fun_ok hP hX hF n
    constructor
    · intro f as h u fin u' he
      rw [evF_succ] at he
      cases hx : X f with
      | some p =>
        rw [hx] at he
        cases u with
        | no => exact ⟨(hX f p hx).1, fun φ w vs m r hv hm => absurd rfl hm.no⟩
        | _ => simp at he
      | none =>
      rw [hx] at he
      obtain ⟨fn', hfn', he⟩ := ob_eq he
      obtain ⟨out, hout, he⟩ := ob_eq he
      obtain ⟨fn, hfn, htr⟩ := hF f fn' hfn'
      obtain ⟨c, rs, hb, hrs, hname, hres, hbody⟩ := trFn_inv htr
      refine ⟨⟨fn, hfn, by rw [hb]; rfl, hname⟩, fun φ w vs m r hv hm => ?_⟩
      refine callsD_of_wpS hfn hb fun c₀ cs hc₀ b k hk hro => ?_
      let B : Base := ⟨w0, φ, h, w, fn.ntmps, c₀ :: cs, true⟩
      have hu := hm.no
      have hcs : CsR φ (c₀ :: cs) u (c₀ :: cs) := by
        have : ∃ c0 rest m', c₀ :: cs = c0 :: rest ∧ c₀ :: cs = { c0 with mode := m' } :: rest ∧ MoRel φ u m' := ⟨c₀, cs, m, rfl, by rw [← hc₀], hm⟩
        cases u with
        | no => exact absurd rfl hu
        | _ => exact this
      have sr : SR B φ ⟨argsFr as .h .leaf, h, [], u⟩ { tmps := vs.toArray ++ Array.replicate (fn.ntmps - vs.toArray.size) undef, defers := [] } (c₀ :: cs) w :=
        ⟨enter_fr r.gb.1 hv _, r, .refl _ _ _, .nil, hcs, by simp [B, hu]⟩
      rw [hbody] at hout
      obtain ⟨e, a', cs', w', hq, harr⟩ := code_ok (B := B) ihc hP n c _ φ _ _ w out sr hout b k fun _ => ⟨hk, hro⟩
      refine ⟨e, a', cs', w', ?_, harr⟩
      have csOf : ∀ {φ' : Phi} {s : St}, (B.D = false ↔ s.u = .no) → CsR φ' B.cs s.u cs' → s.u ≠ .no ∧ ∃ m', cs' = { c₀ with mode := m' } :: cs ∧ MoRel φ' s.u m' := by
        intro φ' s hdd hc
        have hsu : s.u ≠ .no := fun h => absurd (hdd.2 h) (by simp [B])
        refine ⟨hsu, ?_⟩
        have key : ∀ {c0 : Frame} {rest : List Frame} {m' : FrameMode}, B.cs = c0 :: rest → cs' = { c0 with mode := m' } :: rest → MoRel φ' s.u m' → ∃ m', cs' = { c₀ with mode := m' } :: cs ∧ MoRel φ' s.u m' := by
          intro c0 rest m' h1 h2 h3
          have h1 : c₀ :: cs = c0 :: rest := h1
          simp only [List.cons.injEq] at h1
          obtain ⟨rfl, rfl⟩ := h1
          exact ⟨m', h2, h3⟩
        unfold CsR at hc
        split at hc
        · exact absurd ‹_› hsu
        · obtain ⟨c0, rest, m', h1, h2, h3⟩ := hc
          exact key h1 h2 h3
      cases out with
      | normal s =>
        obtain ⟨rfl, φ', sr'⟩ := hq
        obtain ⟨hsu, m', hcs', hmo⟩ := csOf sr'.dd sr'.cs
        rw [finish_normal] at he
        obtain ⟨h1, h2, v, h3, h4⟩ := finS_def hrs hres he hsu (.ret : MoRel φ' .returning .returning) sr'.rel sr'.df (fun _ => sr'.fr) sr'.ext
        exact ⟨h1, m', hcs', v, h3, h4 m' (by rw [h2]; exact hmo)⟩
      | ret s =>
        obtain ⟨rfl, φ', sr'⟩ := hq
        obtain ⟨hsu, m', hcs', hmo⟩ := csOf sr'.dd sr'.cs
        rw [finish_ret] at he
        obtain ⟨h1, h2, v, h3, h4⟩ := finS_def hrs hres he hsu (.ret : MoRel φ' .returning .returning) sr'.rel sr'.df (fun _ => sr'.fr) sr'.ext
        exact ⟨h1, m', hcs', v, h3, h4 m' (by rw [h2]; exact hmo)⟩
      | panic ch s =>
        obtain ⟨es, φ', rfl, hch, hrel, hext, hdf, hcsr, hdd, hfr⟩ := hq
        obtain ⟨hsu, m', hcs', hmo⟩ := csOf hdd hcsr
        rw [finish_panic] at he
        obtain ⟨h1, h2, h4⟩ := finS_def (nt := 0) hrs hres he hsu (.pan es ch hch : MoRel φ' _ _) hrel hdf (by intro e; simp at e) hext
        exact ⟨h1, m', hcs', h4 m' (by rw [h2]; exact hmo)⟩
      | exit id s => rw [finish_exit] at he; simp at he
    · intro f as h fin he
      obtain ⟨⟨fin', u'⟩, hev, he⟩ := ob_eq he
      simp only [Option.some.injEq] at he; subst he
      rw [evF_succ] at hev
      cases hx : X f with
      | some p =>
        rw [hx] at hev
        simp only at hev
        obtain ⟨v, hv, hev⟩ := ob_eq hev
        simp only [Option.some.injEq, Prod.mk.injEq] at hev
        obtain ⟨rfl, _⟩ := hev
        exact ⟨(hX f p hx).1, fun φ w vs r hvs => (hX f p hx).2 as v φ h w vs hv r hvs⟩
      | none =>
      rw [hx] at hev
      obtain ⟨fn', hfn', he⟩ := ob_eq hev
      obtain ⟨out, hout, he⟩ := ob_eq he
      obtain ⟨fn, hfn, htr⟩ := hF f fn' hfn'
      obtain ⟨c, rs, hb, hrs, hname, hres, hbody⟩ := trFn_inv htr
      refine ⟨⟨fn, hfn, by rw [hb]; rfl, hname⟩, fun φ w vs r hv => ?_⟩
      refine calls_of_wp_defers hfn hb fun b k cs => ?_
      let B : Base := ⟨w0, φ, h, w, fn.ntmps, cs, false⟩
      have sr : SR B φ ⟨argsFr as .h .leaf, h, [], .no⟩ { tmps := vs.toArray ++ Array.replicate (fn.ntmps - vs.toArray.size) undef, defers := [] } cs w :=
        ⟨enter_fr r.gb.1 hv _, r, .refl _ _ _, .nil, rfl, by simp [B]⟩
      rw [hbody] at hout
      obtain ⟨e, a', cs', w', hq, harr⟩ := code_ok (B := B) ihc hP n c _ φ _ _ w out sr hout b k (by simp [B])
      have csOf : ∀ {φ' : Phi} {s : St}, (B.D = false ↔ s.u = .no) → CsR φ' B.cs s.u cs' → cs' = cs := by
        intro φ' s hdd hc
        have hsu : s.u = .no := hdd.1 rfl
        rw [hsu] at hc; exact hc
      cases out with
      | normal s =>
        obtain ⟨rfl, φ', sr'⟩ := hq
        have := csOf sr'.dd sr'.cs
        subst this
        rw [finish_normal] at he
        exact ⟨.normal, a', w', finS_leaves ihd hrs hres he (by simp) .ret sr'.rel sr'.df (fun _ => sr'.fr) sr'.ext, harr⟩
      | ret s =>
        obtain ⟨rfl, φ', sr'⟩ := hq
        have := csOf sr'.dd sr'.cs
        subst this
        rw [finish_ret] at he
        exact ⟨.ret, a', w', finS_leaves ihd hrs hres he (by simp) .ret sr'.rel sr'.df (fun _ => sr'.fr) sr'.ext, harr⟩
      | panic ch s =>
        obtain ⟨es, φ', rfl, hch, hrel, hext, hdf, hcsr, hdd, hfr⟩ := hq
        have := csOf hdd hcsr
        subst this
        rw [finish_panic] at he
        exact ⟨.panic es, a', w', finS_leaves ihd hrs hres he (by simp) (.pan es ch hch) hrel hdf (fun h => hfr (h.resolve_left (by simp))) hext, harr⟩
      | exit id s => rw [finish_exit] at he; simp at he

theorem calls_ok (hP : P.follows .mixedOrders = true) (hX : XOk P w0 X) (hF : TabOk P F) {n f : Nat} {as : List AV} {h : HP} {fin : Fin} {u' : AMode} (he : evF X F n f as h .no = some (fin, u')) {vs : List Value} (r : Rel w0 φ h w) (hv : RVs φ vs as) :
    Calls P f vs.toArray w (FinR w0 φ h w fin) :=
  ((fun_ok hP hX hF n).2 f as h fin (by show ob (evF X F n f as h .no) _ = _; rw [he]; rfl)).2 φ w vs r hv
end
end Go.Proofs.YtmoabbfdehaenaaGreatDoor.Ev

namespace Go.Proofs.YtmoabbfdehaenaaGreatDoor.Ev
open Go Go.RowKit
variable [Rho]
section
variable {P : Program} {X : Prims} {F : Tab}

theorem rel_start {w : World} (hg : GB w) : Rel w Rho.gphi Rho.g0 w :=
  ⟨rfl, rfl, rfl, Nat.le_refl _, fun _ _ => rfl, ⟨.refl _, hg⟩, Rho.gwf, fun b l h => ⟨Rho.gdom b l h, hg.1 b l h⟩, hg.2, fun b b' l l' k k' _ _ hk _ hw _ => by obtain ⟨vs, rfl⟩ := Rho.gro b k hk; exact Bool.noConfusion (show false = true from hw)⟩

def GrownO (w w' : World) : Prop := w.keptBut w' (fun _ => False) ∧ (∀ a, a.block < w.heap.size → w'.frozen? a = w.frozen? a) ∧ w.heap.size ≤ w'.heap.size
theorem GrownO.frame {w w' : World} (h : GrownO w w') (may : MemPlace → Prop) : w.keptBut w' may := World.keptBut_mono (fun _ f => f.elim) h.1
theorem grown_of {φ : Phi} {h : HP} {w w' : World} (r : Rel w φ h w') : GrownO w w' := by
  refine ⟨?_, fun a hlt => ?_, r.size⟩
  · refine ⟨r.os, r.output, fun i hi => ?_⟩
    rw [r.old i hi]
    cases w.heap[i]? with
    | none => rfl
    | some o => cases o <;> simp
  · simp only [World.frozen?, r.old _ hlt]

theorem walk_of (hP : P.follows .mixedOrders = true) (hX : ∀ w0, XOk P w0 X) (hF : TabOk P F) {n f : Nat} {as : List AV} {h : HP} {u : AMode} (he : evF X F n f as Rho.g0 .no = some (.ret (.bool true) h, u)) {vs : List Value} (hv : RVs Rho.gphi vs as) {w : World} (hg : GB w) :
    Calls P f vs.toArray w fun e w' => e = .returned (.bool true) ∧ GrownO w w' := by
  refine Calls.mono (calls_ok hP (hX w) hF he (rel_start hg) hv) fun e w' hR => ?_
  cases e with
  | returned v =>
    obtain ⟨φ', a, h', hf, hr, r, _⟩ := hR
    simp only [Fin.ret.injEq] at hf
    obtain ⟨rfl, rfl⟩ := hf
    cases hr
    exact ⟨rfl, grown_of r⟩
  | panicked ch => obtain ⟨_, _, _, hf, _⟩ := hR; simp at hf
  | outgrown => exact hR.elim

noncomputable def isTrue (r : Option (Fin × AMode)) : Bool := match r with | some (.ret (.bool true) _, _) => true | _ => false
theorem walk_true (hP : P.follows .mixedOrders = true) (hX : ∀ w0, XOk P w0 X) (hF : TabOk P F) {n f : Nat} {as : List AV} (he : isTrue (evF X F n f as Rho.g0 .no) = true) {vs : List Value} (hv : RVs Rho.gphi vs as) {w : World} (hg : GB w) :
    Calls P f vs.toArray w fun e w' => e = .returned (.bool true) ∧ GrownO w w' := by
  unfold isTrue at he
  split at he
  · rename_i h u hh; exact walk_of hP hX hF hh hv hg
  · simp at he
end
end Go.Proofs.YtmoabbfdehaenaaGreatDoor.Ev

namespace Go.Proofs.YtmoabbfdehaenaaGreatDoor.Ev
open Go
variable [Rho]
inductive FT | none | at (k : Nat) (fn : AFn) | node (k : Nat) (l r : FT)
noncomputable def FT.get (t : FT) : Nat → Option AFn :=
  FT.rec (fun _ => Option.none) (fun k fn f => bif Nat.beq f k then some fn else Option.none) (fun k _ _ ihl ihr f => bif Nat.ble f k then ihl f else ihr f) t
inductive FT.Ok (P : Program) : FT → Prop
  | none : FT.Ok P .none
  | at (k : Nat) (fn : AFn) (fn0 : Func) (h : P.funcs[k]? = some fn0) (ht : trFn P fn0 = some fn) : FT.Ok P (.at k fn)
  | node (k : Nat) (l r : FT) (hl : FT.Ok P l) (hr : FT.Ok P r) : FT.Ok P (.node k l r)
theorem FT.tab_ok {P : Program} : ∀ {t : FT}, FT.Ok P t → TabOk P t.get
  | .none, _, f, fn', h => by simp [FT.get] at h
  | .at k fn, .at _ _ fn0 h1 h2, f, fn', h0 => by
    have h : (bif Nat.beq f k then some fn else Option.none) = some fn' := h0
    obtain ⟨hk, h3⟩ := bif_eq h
    have hk := Nat.eq_of_beq_eq_true hk
    have h4 : fn = fn' := Option.some.inj h3
    subst hk h4
    exact ⟨fn0, h1, h2⟩
  | .node k l r, .node _ _ _ hl hr, f, fn', h0 => by
    have h : (bif Nat.ble f k then l.get f else r.get f) = some fn' := h0
    clear h0
    cases hb : Nat.ble f k with
    | true => rw [hb] at h; exact FT.tab_ok hl f fn' h
    | false => rw [hb] at h; exact FT.tab_ok hr f fn' h
theorem xok_none (P : Program) (w0 : World) : XOk P w0 (fun _ => Option.none) := fun f p h => by simp at h
end Go.Proofs.YtmoabbfdehaenaaGreatDoor.Ev

namespace Go.Proofs.YtmoabbfdehaenaaGreatDoor.Ev
open Go
noncomputable section

abbrev Res2 := Option (Fin × AMode)
inductive Ty | i (k : IntKind) | b | s | v deriving Inhabited
def ikN (k : IntKind) : Nat := IntKind.rec 0 1 2 3 4 5 6 7 k
theorem ikN_inj {j k : IntKind} (h : Nat.beq (ikN j) (ikN k) = true) : j = k := by cases j <;> cases k <;> first | rfl | simp [ikN] at h
theorem ikN_self (k : IntKind) : Nat.beq (ikN k) (ikN k) = true := by cases k <;> rfl

def addQ (a b : Int) : Int := Int.rec (motive := fun _ => Int → Int) (fun m b => Int.rec (motive := fun _ => Nat → Int) (fun n m => .ofNat (Nat.add m n)) (fun n m => Int.ofNat m + Int.negSucc n) b m) (fun m b => Int.negSucc m + b) a b
theorem addQ_eq (a b : Int) : addQ a b = addF a b := by cases a <;> cases b <;> rfl
def maxQ (k : IntKind) : Nat := IntKind.rec 127 32767 2147483647 9223372036854775807 255 65535 4294967295 18446744073709551615 k
theorem maxQ_eq (k : IntKind) : maxQ k = maxN k := by cases k <;> rfl
def wrQ (k : IntKind) (n : Int) : Int := Int.rec (motive := fun _ => IntKind → Int) (fun m k => Nat.rec (motive := fun _ => Int) (.ofNat 0) (fun p _ => Bool.rec (k.wrap (.ofNat (Nat.succ p))) (.ofNat (Nat.succ p)) (Nat.ble (Nat.succ p) (maxQ k))) m) (fun m k => Bool.rec (k.wrap (.negSucc m)) (.negSucc m) (k.signed && Nat.ble m (maxQ k))) n k
theorem wrQ_eq (k : IntKind) (n : Int) : wrQ k n = wrapF k n := by
  cases n with
  | ofNat m =>
    cases m with
    | zero =>
      show Int.ofNat 0 = (bif Nat.ble 0 (maxN k) then .ofNat 0 else k.wrap (.ofNat 0))
      cases k <;> rfl
    | succ m =>
      show (Bool.rec (k.wrap (.ofNat (Nat.succ m))) (.ofNat (Nat.succ m)) (Nat.ble (Nat.succ m) (maxQ k)) : Int) = (bif Nat.ble (Nat.succ m) (maxN k) then .ofNat (Nat.succ m) else k.wrap (.ofNat (Nat.succ m)))
      rw [maxQ_eq]; cases Nat.ble (Nat.succ m) (maxN k) <;> rfl
  | negSucc m =>
    show (Bool.rec (k.wrap (.negSucc m)) (.negSucc m) (k.signed && Nat.ble m (maxQ k)) : Int) = (bif k.signed && Nat.ble m (maxN k) then .negSucc m else k.wrap (.negSucc m))
    rw [maxQ_eq]; cases (k.signed && Nat.ble m (maxN k)) <;> rfl
def ltQ (a b : Int) : Bool := Int.rec (motive := fun _ => Int → Bool) (fun m b => Int.rec (motive := fun _ => Nat → Bool) (fun n m => Nat.ble (Nat.succ m) n) (fun n m => decide (Int.ofNat m < Int.negSucc n)) b m) (fun m b => decide (Int.negSucc m < b)) a b
theorem ltQ_eq (a b : Int) : ltQ a b = ltF a b := by cases a <;> cases b <;> rfl
def leQ (a b : Int) : Bool := Int.rec (motive := fun _ => Int → Bool) (fun m b => Int.rec (motive := fun _ => Nat → Bool) (fun n m => Nat.ble m n) (fun n m => decide (Int.ofNat m ≤ Int.negSucc n)) b m) (fun m b => decide (Int.negSucc m ≤ b)) a b
theorem leQ_eq (a b : Int) : leQ a b = leF a b := by cases a <;> cases b <;> rfl
def eqQ (a b : Int) : Bool := Int.rec (motive := fun _ => Int → Bool) (fun m b => Int.rec (motive := fun _ => Nat → Bool) (fun n m => Nat.beq m n) (fun _ _ => false) b m) (fun m b => Int.rec (motive := fun _ => Nat → Bool) (fun _ _ => false) (fun n m => Nat.beq m n) b m) a b
theorem eqQ_eq (a b : Int) : eqQ a b = eqF a b := by cases a <;> cases b <;> rfl
def notQ (b : Bool) : Bool := Bool.rec true false b
theorem notQ_eq (b : Bool) : notQ b = !b := by cases b <;> rfl

def AV.oneQ (v : AV) : Bool := AV.rec (motive_1 := fun _ => Bool) (motive_2 := fun _ => PUnit) (fun _ => true) (fun _ _ => true) (fun _ _ => true) (fun _ => true) (fun _ => true) (fun _ _ => true) true (fun _ _ _ _ => true) true (fun _ => true) true (fun _ _ _ _ _ => true) true (fun _ _ _ => true) true (fun _ _ => false) (fun _ _ => false) ⟨⟩ (fun _ _ _ _ => ⟨⟩) v
theorem AV.oneQ_eq (v : AV) : v.oneQ = v.one := by cases v <;> rfl
def HP.mQ (h : HP) : T (Option Blk) := HP.rec (fun _ m => m) h
def HP.nxQ (h : HP) : Pos := HP.rec (fun n _ => n) h
def HP.putQ (h : HP) (b : Pos) (x : Option Blk) : HP := HP.rec (fun nx m b x => ⟨nx, T.set x b m⟩) h b x

def obQ {α : Type} (x : Option α) (f : α → Res2) : Res2 := Option.rec none f x
theorem obQ_eq {α : Type} (x : Option α) (f : α → Res2) : obQ x f = ob x f := by cases x <;> rfl
def br (b : Bool) (x y : Res2) : Res2 := Bool.rec y x b
def asI (k : IntKind) (v : AV) (f : Int → Res2) : Res2 := AV.rec (motive_1 := fun _ => IntKind → (Int → Res2) → Res2) (motive_2 := fun _ => PUnit) (fun _ _ _ => none) (fun j n k f => Bool.rec none (f n) (Nat.beq (ikN j) (ikN k))) (fun _ _ _ _ => none) (fun _ _ _ => none) (fun _ _ _ => none) (fun _ _ _ _ => none) (fun _ _ => none) (fun _ _ _ _ _ _ => none) (fun _ _ => none) (fun _ _ _ => none) (fun _ _ => none) (fun _ _ _ _ _ _ _ => none) (fun _ _ => none) (fun _ _ _ _ _ => none) (fun _ _ => none) (fun _ _ _ _ => none) (fun _ _ _ _ => none) ⟨⟩ (fun _ _ _ _ => ⟨⟩) v k f
def asB (v : AV) (f : Bool → Res2) : Res2 := AV.rec (motive_1 := fun _ => (Bool → Res2) → Res2) (motive_2 := fun _ => PUnit) (fun b f => f b) (fun _ _ _ => none) (fun _ _ _ => none) (fun _ _ => none) (fun _ _ => none) (fun _ _ _ => none) (fun _ => none) (fun _ _ _ _ _ => none) (fun _ => none) (fun _ _ => none) (fun _ => none) (fun _ _ _ _ _ _ => none) (fun _ => none) (fun _ _ _ _ => none) (fun _ => none) (fun _ _ _ => none) (fun _ _ _ => none) ⟨⟩ (fun _ _ _ _ => ⟨⟩) v f
def asS (v : AV) (f : List Nat → Res2) : Res2 := AV.rec (motive_1 := fun _ => (List Nat → Res2) → Res2) (motive_2 := fun _ => PUnit) (fun _ _ => none) (fun _ _ _ => none) (fun _ _ _ => none) (fun _ _ => none) (fun s f => f s) (fun _ _ _ => none) (fun _ => none) (fun _ _ _ _ _ => none) (fun _ => none) (fun _ _ => none) (fun _ => none) (fun _ _ _ _ _ _ => none) (fun _ => none) (fun _ _ _ _ => none) (fun _ => none) (fun _ _ _ => none) (fun _ _ _ => none) ⟨⟩ (fun _ _ _ _ => ⟨⟩) v f
def asTy (ty : Ty) (v : AV) (f : AV → Res2) : Res2 := Ty.rec (fun k => asI k v fun n => f (.int k n)) (asB v fun b => f (.bool b)) (asS v fun s => f (.str s)) (f v) ty
theorem asTy_eq {ty : Ty} {v : AV} {f : AV → Res2} {r : Fin × AMode} (h : asTy ty v f = some r) : f v = some r := by
  cases ty with
  | i k =>
    cases v <;> try exact absurd h (by show ¬ (none : Res2) = some r; simp)
    rename_i j n
    have h : (Bool.rec none (f (.int k n)) (Nat.beq (ikN j) (ikN k)) : Res2) = some r := h
    cases hb : Nat.beq (ikN j) (ikN k) with
    | false => rw [hb] at h; exact absurd h (by show ¬ (none : Res2) = some r; simp)
    | true => rw [hb] at h; rw [ikN_inj hb]; exact h
  | b => cases v <;> first | exact h | exact absurd h (by show ¬ (none : Res2) = some r; simp)
  | s => cases v <;> first | exact h | exact absurd h (by show ¬ (none : Res2) = some r; simp)
  | v => exact h

def ifP (v : AV) (h : HP) (f : Pos → Nat → HP → Res2) : Res2 := AV.rec (motive_1 := fun _ => HP → (Pos → Nat → HP → Res2) → Res2) (motive_2 := fun _ => PUnit) (fun _ _ _ => none) (fun _ _ _ _ => none) (fun _ _ _ _ => none) (fun _ _ _ => none) (fun _ _ _ => none) (fun b o h f => f b o h) (fun _ _ => none) (fun _ _ _ _ _ _ => none) (fun _ _ => none) (fun _ _ _ => none) (fun _ _ => none) (fun _ _ _ _ _ _ _ => none) (fun _ _ => none) (fun _ _ _ _ _ => none) (fun _ _ => none) (fun _ _ _ _ => none) (fun _ _ _ _ => none) ⟨⟩ (fun _ _ _ _ => ⟨⟩) v h f
def nthQ (l : List AV) (n : Nat) (f : AV → Res2) : Res2 := List.rec (motive := fun _ => Nat → (AV → Res2) → Res2) (fun _ _ => none) (fun a _ ih n f => Nat.rec (f a) (fun m _ => ih m f) n) l n f
theorem nthQ_eq (f : AV → Res2) : ∀ (l : List AV) (n : Nat), nthQ l n f = ob (nth l n) f
  | [], _ => rfl
  | a :: l, 0 => rfl
  | a :: l, n + 1 => nthQ_eq f l n
def cellC (a : AV) (h : HP) (f : AV → Res2) : Res2 := ifP a h fun b o h => obQ (T.get b h.mQ) fun x => obQ x fun k =>
  Blk.rec (motive := fun _ => Nat → (AV → Res2) → Res2) (fun wr vs o f => nthQ vs o f) (fun _ _ _ _ => none) (fun _ _ _ _ => none) (fun _ _ _ _ => none) k o f
theorem cellC_eq (a : AV) (h : HP) (f : AV → Res2) : cellC a h f = ob (cellV a h) f := by
  cases a <;> try rfl
  rename_i b o
  obtain ⟨nx, m⟩ := h
  show obQ (T.get b m) (fun x => obQ x fun k => _) = ob (ob (ob (T.get b m) fun o => o) fun k => _) f
  cases T.get b m with
  | none => rfl
  | some x =>
    cases x with
    | none => rfl
    | some k =>
      cases k with
      | cells wr vs => exact nthQ_eq f vs o
      | _ => rfl
def cellsC (n : Nat) (a : AV) (h : HP) (f : AV → Res2) : Res2 := ifP a h fun b o h => obQ (T.get b h.mQ) fun x => obQ x fun k =>
  Blk.rec (motive := fun _ => Nat → Nat → (AV → Res2) → Res2) (fun wr vs n o f => obQ (takeN n (dropN o vs)) fun r => f (.agg r)) (fun _ _ _ _ _ => none) (fun _ _ _ _ _ => none) (fun _ _ _ _ _ => none) k n o f
theorem cellsC_eq (n : Nat) (a : AV) (h : HP) (f : AV → Res2) : cellsC n a h f = ob (cellsV n a h) f := by
  cases a <;> try rfl
  rename_i b o
  obtain ⟨nx, m⟩ := h
  show obQ (T.get b m) (fun x => obQ x fun k => _) = ob (ob (ob (T.get b m) fun o => o) fun k => _) f
  cases T.get b m with
  | none => rfl
  | some x =>
    cases x with
    | none => rfl
    | some k =>
      cases k with
      | cells wr vs =>
        show obQ (takeN n (dropN o vs)) (fun r => f (.agg r)) = ob (ob (takeN n (dropN o vs)) fun r => some (.agg r)) f
        cases takeN n (dropN o vs) <;> rfl
      | _ => rfl
def faC (off : Nat) (a : AV) (f : AV → Res2) : Res2 := AV.rec (motive_1 := fun _ => Nat → (AV → Res2) → Res2) (motive_2 := fun _ => PUnit) (fun _ _ _ => none) (fun _ _ _ _ => none) (fun _ _ _ _ => none) (fun _ _ _ => none) (fun _ _ _ => none) (fun b o off f => f (.ptr b (Nat.add o off))) (fun _ _ => none) (fun _ _ _ _ _ _ => none) (fun _ _ => none) (fun _ _ _ => none) (fun _ _ => none) (fun _ _ _ _ _ _ _ => none) (fun _ _ => none) (fun _ _ _ _ _ => none) (fun _ _ => none) (fun _ _ _ _ => none) (fun _ _ _ _ => none) ⟨⟩ (fun _ _ _ _ => ⟨⟩) a off f
def natC (i : AV) (f : Nat → Res2) : Res2 := AV.rec (motive_1 := fun _ => (Nat → Res2) → Res2) (motive_2 := fun _ => PUnit) (fun _ _ => none) (fun k n f => Int.rec (motive := fun _ => (Nat → Res2) → Res2) (fun n f => f n) (fun _ _ => none) n f) (fun _ _ _ => none) (fun _ _ => none) (fun _ _ => none) (fun _ _ _ => none) (fun _ => none) (fun _ _ _ _ _ => none) (fun _ => none) (fun _ _ => none) (fun _ => none) (fun _ _ _ _ _ _ => none) (fun _ => none) (fun _ _ _ _ => none) (fun _ => none) (fun _ _ _ => none) (fun _ _ _ => none) ⟨⟩ (fun _ _ _ _ => ⟨⟩) i f
theorem natC_eq (i : AV) (f : Nat → Res2) : natC i f = ob (asNat i) f := by
  cases i <;> try rfl
  rename_i k n; cases n <;> rfl
def iasC (sz : Nat) (a i : AV) (f : AV → Res2) : Res2 := AV.rec (motive_1 := fun _ => Nat → AV → (AV → Res2) → Res2) (motive_2 := fun _ => PUnit) (fun _ _ _ _ => none) (fun _ _ _ _ _ => none) (fun _ _ _ _ _ => none) (fun _ _ _ _ => none) (fun _ _ _ _ => none) (fun _ _ _ _ _ => none) (fun _ _ _ => none) (fun b o len _ sz i f => natC i fun i => Bool.rec none (f (.ptr b (Nat.add o (Nat.mul i sz)))) (Nat.ble (Nat.succ i) len)) (fun _ _ _ => none) (fun _ _ _ _ => none) (fun _ _ _ => none) (fun _ _ _ _ _ _ _ _ => none) (fun _ _ _ => none) (fun _ _ _ _ _ _ => none) (fun _ _ _ => none) (fun _ _ _ _ _ => none) (fun _ _ _ _ _ => none) ⟨⟩ (fun _ _ _ _ => ⟨⟩) a sz i f
def ixC (x i : AV) (f : AV → Res2) : Res2 := AV.rec (motive_1 := fun _ => AV → (AV → Res2) → Res2) (motive_2 := fun _ => PUnit) (fun _ _ _ => none) (fun _ _ _ _ => none) (fun _ _ _ _ => none) (fun _ _ _ => none) (fun s i f => natC i fun i => obQ (nth s i) fun c => f (.int .u8 (.ofNat c))) (fun _ _ _ _ => none) (fun _ _ => none) (fun _ _ _ _ _ _ => none) (fun _ _ => none) (fun _ _ _ => none) (fun _ _ => none) (fun _ _ _ _ _ _ _ => none) (fun _ _ => none) (fun _ _ _ _ _ => none) (fun _ _ => none) (fun _ _ _ _ => none) (fun _ _ _ _ => none) ⟨⟩ (fun _ _ _ _ => ⟨⟩) x i f
def fldC (off sz : Nat) (agg : Bool) (x : AV) (f : AV → Res2) : Res2 := AV.rec (motive_1 := fun _ => Nat → Nat → Bool → (AV → Res2) → Res2) (motive_2 := fun _ => PUnit) (fun _ _ _ _ _ => none) (fun _ _ _ _ _ _ => none) (fun _ _ _ _ _ _ => none) (fun _ _ _ _ _ => none) (fun _ _ _ _ _ => none) (fun _ _ _ _ _ _ => none) (fun _ _ _ _ => none) (fun _ _ _ _ _ _ _ _ => none) (fun _ _ _ _ => none) (fun _ _ _ _ _ => none) (fun _ _ _ _ => none) (fun _ _ _ _ _ _ _ _ _ => none) (fun _ _ _ _ => none) (fun _ _ _ _ _ _ _ => none) (fun _ _ _ _ => none) (fun cs _ off sz agg f => obQ (takeN sz (dropN off cs)) fun r => obQ (aggOf agg r) f) (fun _ _ _ _ _ _ => none) ⟨⟩ (fun _ _ _ _ => ⟨⟩) x off sz agg f
def extC (x : AV) (i : Nat) (f : AV → Res2) : Res2 := AV.rec (motive_1 := fun _ => Nat → (AV → Res2) → Res2) (motive_2 := fun _ => PUnit) (fun _ _ _ => none) (fun _ _ _ _ => none) (fun _ _ _ _ => none) (fun _ _ _ => none) (fun _ _ _ => none) (fun _ _ _ _ => none) (fun _ _ => none) (fun _ _ _ _ _ _ => none) (fun _ _ => none) (fun _ _ _ => none) (fun _ _ => none) (fun _ _ _ _ _ _ _ => none) (fun _ _ => none) (fun _ _ _ _ _ => none) (fun _ _ => none) (fun _ _ _ _ => none) (fun vs _ i f => nthQ vs i f) ⟨⟩ (fun _ _ _ _ => ⟨⟩) x i f
def lenC (x : AV) (f : AV → Res2) : Res2 := AV.rec (motive_1 := fun _ => (AV → Res2) → Res2) (motive_2 := fun _ => PUnit) (fun _ _ => none) (fun _ _ _ => none) (fun _ _ _ => none) (fun _ _ => none) (fun _ _ => none) (fun _ _ _ => none) (fun _ => none) (fun _ _ n _ f => f (.int .i64 (.ofNat n))) (fun f => f (.int .i64 (.ofNat 0))) (fun _ _ => none) (fun _ => none) (fun _ _ _ _ _ _ => none) (fun _ => none) (fun _ _ _ _ => none) (fun _ => none) (fun _ _ _ => none) (fun _ _ _ => none) ⟨⟩ (fun _ _ _ _ => ⟨⟩) x f
def nilckC (x : AV) (f : AV → Res2) : Res2 := AV.rec (motive_1 := fun _ => (AV → Res2) → Res2) (motive_2 := fun _ => PUnit) (fun _ _ => none) (fun _ _ _ => none) (fun _ _ _ => none) (fun _ _ => none) (fun _ _ => none) (fun b o f => f (.ptr b o)) (fun _ => none) (fun _ _ _ _ _ => none) (fun _ => none) (fun _ _ => none) (fun _ => none) (fun g a b _ _ f => f (.fn g a b)) (fun _ => none) (fun _ _ _ _ => none) (fun _ => none) (fun _ _ _ => none) (fun _ _ _ => none) ⟨⟩ (fun _ _ _ _ => ⟨⟩) x f

def obQV {α : Type} (x : Option α) (f : α → Option AV) : Option AV := Option.rec none f x
theorem obQV_eq {α : Type} (x : Option α) (f : α → Option AV) : obQV x f = ob x f := by cases x <;> rfl
def brV (b : Bool) (x y : Option AV) : Option AV := Bool.rec y x b
def asIV (k : IntKind) (v : AV) (f : Int → Option AV) : Option AV := AV.rec (motive_1 := fun _ => IntKind → (Int → Option AV) → Option AV) (motive_2 := fun _ => PUnit) (fun _ _ _ => none) (fun j n k f => Bool.rec none (f n) (Nat.beq (ikN j) (ikN k))) (fun _ _ _ _ => none) (fun _ _ _ => none) (fun _ _ _ => none) (fun _ _ _ _ => none) (fun _ _ => none) (fun _ _ _ _ _ _ => none) (fun _ _ => none) (fun _ _ _ => none) (fun _ _ => none) (fun _ _ _ _ _ _ _ => none) (fun _ _ => none) (fun _ _ _ _ _ => none) (fun _ _ => none) (fun _ _ _ _ => none) (fun _ _ _ _ => none) ⟨⟩ (fun _ _ _ _ => ⟨⟩) v k f
def asBV (v : AV) (f : Bool → Option AV) : Option AV := AV.rec (motive_1 := fun _ => (Bool → Option AV) → Option AV) (motive_2 := fun _ => PUnit) (fun b f => f b) (fun _ _ _ => none) (fun _ _ _ => none) (fun _ _ => none) (fun _ _ => none) (fun _ _ _ => none) (fun _ => none) (fun _ _ _ _ _ => none) (fun _ => none) (fun _ _ => none) (fun _ => none) (fun _ _ _ _ _ _ => none) (fun _ => none) (fun _ _ _ _ => none) (fun _ => none) (fun _ _ _ => none) (fun _ _ _ => none) ⟨⟩ (fun _ _ _ _ => ⟨⟩) v f
def asSV (v : AV) (f : List Nat → Option AV) : Option AV := AV.rec (motive_1 := fun _ => (List Nat → Option AV) → Option AV) (motive_2 := fun _ => PUnit) (fun _ _ => none) (fun _ _ _ => none) (fun _ _ _ => none) (fun _ _ => none) (fun s f => f s) (fun _ _ _ => none) (fun _ => none) (fun _ _ _ _ _ => none) (fun _ => none) (fun _ _ => none) (fun _ => none) (fun _ _ _ _ _ _ => none) (fun _ => none) (fun _ _ _ _ => none) (fun _ => none) (fun _ _ _ => none) (fun _ _ _ => none) ⟨⟩ (fun _ _ _ _ => ⟨⟩) v f
def asTyV (ty : Ty) (v : AV) (f : AV → Option AV) : Option AV := Ty.rec (fun k => asIV k v fun n => f (.int k n)) (asBV v fun b => f (.bool b)) (asSV v fun s => f (.str s)) (f v) ty
theorem asTyV_eq {ty : Ty} {v : AV} {f : AV → Option AV} {r : AV} (h : asTyV ty v f = some r) : f v = some r := by
  cases ty with
  | i k =>
    cases v <;> try exact absurd h (by show ¬ (none : Option AV) = some r; simp)
    rename_i j n
    have h : (Bool.rec none (f (.int k n)) (Nat.beq (ikN j) (ikN k)) : Option AV) = some r := h
    cases hb : Nat.beq (ikN j) (ikN k) with
    | false => rw [hb] at h; exact absurd h (by show ¬ (none : Option AV) = some r; simp)
    | true => rw [hb] at h; rw [ikN_inj hb]; exact h
  | b => cases v <;> first | exact h | exact absurd h (by show ¬ (none : Option AV) = some r; simp)
  | s => cases v <;> first | exact h | exact absurd h (by show ¬ (none : Option AV) = some r; simp)
  | v => exact h

def ifPV (v : AV) (h : HP) (f : Pos → Nat → HP → Option AV) : Option AV := AV.rec (motive_1 := fun _ => HP → (Pos → Nat → HP → Option AV) → Option AV) (motive_2 := fun _ => PUnit) (fun _ _ _ => none) (fun _ _ _ _ => none) (fun _ _ _ _ => none) (fun _ _ _ => none) (fun _ _ _ => none) (fun b o h f => f b o h) (fun _ _ => none) (fun _ _ _ _ _ _ => none) (fun _ _ => none) (fun _ _ _ => none) (fun _ _ => none) (fun _ _ _ _ _ _ _ => none) (fun _ _ => none) (fun _ _ _ _ _ => none) (fun _ _ => none) (fun _ _ _ _ => none) (fun _ _ _ _ => none) ⟨⟩ (fun _ _ _ _ => ⟨⟩) v h f
def nthQV (l : List AV) (n : Nat) (f : AV → Option AV) : Option AV := List.rec (motive := fun _ => Nat → (AV → Option AV) → Option AV) (fun _ _ => none) (fun a _ ih n f => Nat.rec (f a) (fun m _ => ih m f) n) l n f
theorem nthQV_eq (f : AV → Option AV) : ∀ (l : List AV) (n : Nat), nthQV l n f = ob (nth l n) f
  | [], _ => rfl
  | a :: l, 0 => rfl
  | a :: l, n + 1 => nthQV_eq f l n
def cellCV (a : AV) (h : HP) (f : AV → Option AV) : Option AV := ifPV a h fun b o h => obQV (T.get b h.mQ) fun x => obQV x fun k =>
  Blk.rec (motive := fun _ => Nat → (AV → Option AV) → Option AV) (fun wr vs o f => nthQV vs o f) (fun _ _ _ _ => none) (fun _ _ _ _ => none) (fun _ _ _ _ => none) k o f
theorem cellCV_eq (a : AV) (h : HP) (f : AV → Option AV) : cellCV a h f = ob (cellV a h) f := by
  cases a <;> try rfl
  rename_i b o
  obtain ⟨nx, m⟩ := h
  show obQV (T.get b m) (fun x => obQV x fun k => _) = ob (ob (ob (T.get b m) fun o => o) fun k => _) f
  cases T.get b m with
  | none => rfl
  | some x =>
    cases x with
    | none => rfl
    | some k =>
      cases k with
      | cells wr vs => exact nthQV_eq f vs o
      | _ => rfl
def cellsCV (n : Nat) (a : AV) (h : HP) (f : AV → Option AV) : Option AV := ifPV a h fun b o h => obQV (T.get b h.mQ) fun x => obQV x fun k =>
  Blk.rec (motive := fun _ => Nat → Nat → (AV → Option AV) → Option AV) (fun wr vs n o f => obQV (takeN n (dropN o vs)) fun r => f (.agg r)) (fun _ _ _ _ _ => none) (fun _ _ _ _ _ => none) (fun _ _ _ _ _ => none) k n o f
theorem cellsCV_eq (n : Nat) (a : AV) (h : HP) (f : AV → Option AV) : cellsCV n a h f = ob (cellsV n a h) f := by
  cases a <;> try rfl
  rename_i b o
  obtain ⟨nx, m⟩ := h
  show obQV (T.get b m) (fun x => obQV x fun k => _) = ob (ob (ob (T.get b m) fun o => o) fun k => _) f
  cases T.get b m with
  | none => rfl
  | some x =>
    cases x with
    | none => rfl
    | some k =>
      cases k with
      | cells wr vs =>
        show obQV (takeN n (dropN o vs)) (fun r => f (.agg r)) = ob (ob (takeN n (dropN o vs)) fun r => some (.agg r)) f
        cases takeN n (dropN o vs) <;> rfl
      | _ => rfl
def faCV (off : Nat) (a : AV) (f : AV → Option AV) : Option AV := AV.rec (motive_1 := fun _ => Nat → (AV → Option AV) → Option AV) (motive_2 := fun _ => PUnit) (fun _ _ _ => none) (fun _ _ _ _ => none) (fun _ _ _ _ => none) (fun _ _ _ => none) (fun _ _ _ => none) (fun b o off f => f (.ptr b (Nat.add o off))) (fun _ _ => none) (fun _ _ _ _ _ _ => none) (fun _ _ => none) (fun _ _ _ => none) (fun _ _ => none) (fun _ _ _ _ _ _ _ => none) (fun _ _ => none) (fun _ _ _ _ _ => none) (fun _ _ => none) (fun _ _ _ _ => none) (fun _ _ _ _ => none) ⟨⟩ (fun _ _ _ _ => ⟨⟩) a off f
def natCV (i : AV) (f : Nat → Option AV) : Option AV := AV.rec (motive_1 := fun _ => (Nat → Option AV) → Option AV) (motive_2 := fun _ => PUnit) (fun _ _ => none) (fun k n f => Int.rec (motive := fun _ => (Nat → Option AV) → Option AV) (fun n f => f n) (fun _ _ => none) n f) (fun _ _ _ => none) (fun _ _ => none) (fun _ _ => none) (fun _ _ _ => none) (fun _ => none) (fun _ _ _ _ _ => none) (fun _ => none) (fun _ _ => none) (fun _ => none) (fun _ _ _ _ _ _ => none) (fun _ => none) (fun _ _ _ _ => none) (fun _ => none) (fun _ _ _ => none) (fun _ _ _ => none) ⟨⟩ (fun _ _ _ _ => ⟨⟩) i f
theorem natCV_eq (i : AV) (f : Nat → Option AV) : natCV i f = ob (asNat i) f := by
  cases i <;> try rfl
  rename_i k n; cases n <;> rfl
def iasCV (sz : Nat) (a i : AV) (f : AV → Option AV) : Option AV := AV.rec (motive_1 := fun _ => Nat → AV → (AV → Option AV) → Option AV) (motive_2 := fun _ => PUnit) (fun _ _ _ _ => none) (fun _ _ _ _ _ => none) (fun _ _ _ _ _ => none) (fun _ _ _ _ => none) (fun _ _ _ _ => none) (fun _ _ _ _ _ => none) (fun _ _ _ => none) (fun b o len _ sz i f => natCV i fun i => Bool.rec none (f (.ptr b (Nat.add o (Nat.mul i sz)))) (Nat.ble (Nat.succ i) len)) (fun _ _ _ => none) (fun _ _ _ _ => none) (fun _ _ _ => none) (fun _ _ _ _ _ _ _ _ => none) (fun _ _ _ => none) (fun _ _ _ _ _ _ => none) (fun _ _ _ => none) (fun _ _ _ _ _ => none) (fun _ _ _ _ _ => none) ⟨⟩ (fun _ _ _ _ => ⟨⟩) a sz i f
def ixCV (x i : AV) (f : AV → Option AV) : Option AV := AV.rec (motive_1 := fun _ => AV → (AV → Option AV) → Option AV) (motive_2 := fun _ => PUnit) (fun _ _ _ => none) (fun _ _ _ _ => none) (fun _ _ _ _ => none) (fun _ _ _ => none) (fun s i f => natCV i fun i => obQV (nth s i) fun c => f (.int .u8 (.ofNat c))) (fun _ _ _ _ => none) (fun _ _ => none) (fun _ _ _ _ _ _ => none) (fun _ _ => none) (fun _ _ _ => none) (fun _ _ => none) (fun _ _ _ _ _ _ _ => none) (fun _ _ => none) (fun _ _ _ _ _ => none) (fun _ _ => none) (fun _ _ _ _ => none) (fun _ _ _ _ => none) ⟨⟩ (fun _ _ _ _ => ⟨⟩) x i f
def fldCV (off sz : Nat) (agg : Bool) (x : AV) (f : AV → Option AV) : Option AV := AV.rec (motive_1 := fun _ => Nat → Nat → Bool → (AV → Option AV) → Option AV) (motive_2 := fun _ => PUnit) (fun _ _ _ _ _ => none) (fun _ _ _ _ _ _ => none) (fun _ _ _ _ _ _ => none) (fun _ _ _ _ _ => none) (fun _ _ _ _ _ => none) (fun _ _ _ _ _ _ => none) (fun _ _ _ _ => none) (fun _ _ _ _ _ _ _ _ => none) (fun _ _ _ _ => none) (fun _ _ _ _ _ => none) (fun _ _ _ _ => none) (fun _ _ _ _ _ _ _ _ _ => none) (fun _ _ _ _ => none) (fun _ _ _ _ _ _ _ => none) (fun _ _ _ _ => none) (fun cs _ off sz agg f => obQV (takeN sz (dropN off cs)) fun r => obQV (aggOf agg r) f) (fun _ _ _ _ _ _ => none) ⟨⟩ (fun _ _ _ _ => ⟨⟩) x off sz agg f
def extCV (x : AV) (i : Nat) (f : AV → Option AV) : Option AV := AV.rec (motive_1 := fun _ => Nat → (AV → Option AV) → Option AV) (motive_2 := fun _ => PUnit) (fun _ _ _ => none) (fun _ _ _ _ => none) (fun _ _ _ _ => none) (fun _ _ _ => none) (fun _ _ _ => none) (fun _ _ _ _ => none) (fun _ _ => none) (fun _ _ _ _ _ _ => none) (fun _ _ => none) (fun _ _ _ => none) (fun _ _ => none) (fun _ _ _ _ _ _ _ => none) (fun _ _ => none) (fun _ _ _ _ _ => none) (fun _ _ => none) (fun _ _ _ _ => none) (fun vs _ i f => nthQV vs i f) ⟨⟩ (fun _ _ _ _ => ⟨⟩) x i f
def lenCV (x : AV) (f : AV → Option AV) : Option AV := AV.rec (motive_1 := fun _ => (AV → Option AV) → Option AV) (motive_2 := fun _ => PUnit) (fun _ _ => none) (fun _ _ _ => none) (fun _ _ _ => none) (fun _ _ => none) (fun _ _ => none) (fun _ _ _ => none) (fun _ => none) (fun _ _ n _ f => f (.int .i64 (.ofNat n))) (fun f => f (.int .i64 (.ofNat 0))) (fun _ _ => none) (fun _ => none) (fun _ _ _ _ _ _ => none) (fun _ => none) (fun _ _ _ _ => none) (fun _ => none) (fun _ _ _ => none) (fun _ _ _ => none) ⟨⟩ (fun _ _ _ _ => ⟨⟩) x f
def nilckCV (x : AV) (f : AV → Option AV) : Option AV := AV.rec (motive_1 := fun _ => (AV → Option AV) → Option AV) (motive_2 := fun _ => PUnit) (fun _ _ => none) (fun _ _ _ => none) (fun _ _ _ => none) (fun _ _ => none) (fun _ _ => none) (fun b o f => f (.ptr b o)) (fun _ => none) (fun _ _ _ _ _ => none) (fun _ => none) (fun _ _ => none) (fun _ => none) (fun g a b _ _ f => f (.fn g a b)) (fun _ => none) (fun _ _ _ _ => none) (fun _ => none) (fun _ _ _ => none) (fun _ _ _ => none) ⟨⟩ (fun _ _ _ _ => ⟨⟩) x f

def stAt (wr : Bool) (vs : List AV) (b : Pos) (o : Nat) (xs : List AV) (h : HP) (f : HP → Res2) : Res2 :=
  Bool.rec none (obQ (putAt xs o vs) fun r => f (h.putQ b (some (.cells true r)))) wr
def stoC (a x : AV) (h : HP) (f : HP → Res2) : Res2 := ifP a h fun b o h => obQ (T.get b h.mQ) fun y => obQ y fun k =>
  Blk.rec (motive := fun _ => Pos → Nat → AV → HP → (HP → Res2) → Res2) (fun wr vs b o x h f => Bool.rec none (stAt wr vs b o [x] h f) x.oneQ) (fun _ _ _ _ _ _ _ => none) (fun _ _ _ _ _ _ _ => none) (fun _ _ _ _ _ _ _ => none) k b o x h f
theorem allOne_one (x : AV) : allOne [x] = x.one := by show (Bool.rec false true x.one : Bool) = _; cases x.one <;> rfl
theorem stoC_eq (a x : AV) (h : HP) (f : HP → Res2) : stoC a x h f = ob (storeV a x h) f := by
  cases a <;> try rfl
  rename_i b o
  obtain ⟨nx, m⟩ := h
  show obQ (T.get b m) (fun y => obQ y fun k => _) = ob (ob (ob (T.get b m) fun o => o) fun k => _) f
  cases T.get b m with
  | none => rfl
  | some y =>
    cases y with
    | none => rfl
    | some k =>
      cases k with
      | cells wr vs =>
        cases wr with
        | false =>
          show (Bool.rec none none x.oneQ : Res2) = none
          cases x.oneQ <;> rfl
        | true =>
          show (Bool.rec none (obQ (putAt [x] o vs) fun r => f (HP.putQ ⟨nx, m⟩ b (some (.cells true r)))) x.oneQ : Res2) = ob (bif allOne [x] then ob (putAt [x] o vs) fun r => some (HP.put ⟨nx, m⟩ b (some (.cells true r))) else none) f
          rw [allOne_one, AV.oneQ_eq]
          cases x.one with
          | false => rfl
          | true => cases putAt [x] o vs <;> rfl
      | _ => rfl
def aggC (x : AV) (f : List AV → Res2) : Res2 := AV.rec (motive_1 := fun _ => (List AV → Res2) → Res2) (motive_2 := fun _ => PUnit) (fun _ _ => none) (fun _ _ _ => none) (fun _ _ _ => none) (fun _ _ => none) (fun _ _ => none) (fun _ _ _ => none) (fun _ => none) (fun _ _ _ _ _ => none) (fun _ => none) (fun _ _ => none) (fun _ => none) (fun _ _ _ _ _ _ => none) (fun _ => none) (fun _ _ _ _ => none) (fun _ => none) (fun cs _ f => f cs) (fun _ _ _ => none) ⟨⟩ (fun _ _ _ _ => ⟨⟩) x f
def stsC (n : Nat) (a x : AV) (h : HP) (f : HP → Res2) : Res2 := ifP a h fun b o h => aggC x fun cs => Bool.rec none (obQ (T.get b h.mQ) fun y => obQ y fun k =>
  Blk.rec (motive := fun _ => Pos → Nat → List AV → HP → (HP → Res2) → Res2) (fun wr vs b o xs h f => Bool.rec none (stAt wr vs b o xs h f) (allOne xs)) (fun _ _ _ _ _ _ _ => none) (fun _ _ _ _ _ _ _ => none) (fun _ _ _ _ _ _ _ => none) k b o cs h f) (Nat.beq (lenL cs) n)
theorem stsC_eq (n : Nat) (a x : AV) (h : HP) (f : HP → Res2) : stsC n a x h f = ob (storesV n a x h) f := by
  cases a <;> try (cases x <;> rfl)
  rename_i b o
  cases x <;> try rfl
  rename_i cs
  obtain ⟨nx, m⟩ := h
  show (Bool.rec none (obQ (T.get b m) fun y => obQ y fun k => _) (Nat.beq (lenL cs) n) : Res2) = ob (bif Nat.beq (lenL cs) n then ob (ob (T.get b m) fun o => o) (fun k => _) else none) f
  cases Nat.beq (lenL cs) n with
  | false => rfl
  | true =>
    show obQ (T.get b m) (fun y => obQ y fun k => _) = ob (ob (ob (T.get b m) fun o => o) fun k => _) f
    cases T.get b m with
    | none => rfl
    | some y =>
      cases y with
      | none => rfl
      | some k =>
        cases k with
        | cells wr vs =>
          cases wr with
          | false =>
            show (Bool.rec none none (allOne cs) : Res2) = none
            cases allOne cs <;> rfl
          | true =>
            show (Bool.rec none (obQ (putAt cs o vs) fun r => f (HP.putQ ⟨nx, m⟩ b (some (.cells true r)))) (allOne cs) : Res2) = ob (bif allOne cs then ob (putAt cs o vs) fun r => some (HP.put ⟨nx, m⟩ b (some (.cells true r))) else none) f
            cases allOne cs with
            | false => rfl
            | true => cases putAt cs o vs <;> rfl
        | _ => rfl
def calC (D : CallD) (f : Nat) (args : List AV) (h : HP) (kr : AV → HP → Res2) (kp : Chain → HP → Res2) : Res2 :=
  obQ (D f args h .no) fun f => Fin.rec (motive := fun _ => (AV → HP → Res2) → (Chain → HP → Res2) → Res2) (fun v h kr _ => kr v h) (fun c h _ kp => kp c h) f.1 kr kp
def iarC (n sz : Nat) (a i : AV) (f : AV → Res2) : Res2 := AV.rec (motive_1 := fun _ => Nat → Nat → AV → (AV → Res2) → Res2) (motive_2 := fun _ => PUnit) (fun _ _ _ _ _ => none) (fun _ _ _ _ _ _ => none) (fun _ _ _ _ _ _ => none) (fun _ _ _ _ _ => none) (fun _ _ _ _ _ => none) (fun b o n sz i f => natC i fun i => Bool.rec none (f (.ptr b (Nat.add o (Nat.mul i sz)))) (Nat.ble (Nat.succ i) n)) (fun _ _ _ _ => none) (fun _ _ _ _ _ _ _ _ => none) (fun _ _ _ _ => none) (fun _ _ _ _ _ => none) (fun _ _ _ _ => none) (fun _ _ _ _ _ _ _ _ _ => none) (fun _ _ _ _ => none) (fun _ _ _ _ _ _ _ => none) (fun _ _ _ _ => none) (fun _ _ _ _ _ _ => none) (fun _ _ _ _ _ _ => none) ⟨⟩ (fun _ _ _ _ => ⟨⟩) a n sz i f
def loC (x : Option AV) (d : Nat) (f : Nat → Res2) : Res2 := Option.rec (motive := fun _ => Nat → (Nat → Res2) → Res2) (fun d f => f d) (fun v _ f => natC v f) x d f
def slhC (s : List Nat) (l : Nat) (hi : Option AV) (f : AV → Res2) : Res2 := Option.rec (motive := fun _ => List Nat → Nat → (AV → Res2) → Res2) (fun s l f => Bool.rec none (f (.str (dropN l s))) (Nat.ble l (lenL s))) (fun v s l f => natC v fun h => Bool.rec none (Bool.rec none (obQ (takeN (Nat.sub h l) (dropN l s)) fun r => f (.str r)) (Nat.ble l h)) (Nat.ble h (lenL s))) hi s l f
def slC (x : AV) (lo hi : Option AV) (f : AV → Res2) : Res2 := AV.rec (motive_1 := fun _ => Option AV → Option AV → (AV → Res2) → Res2) (motive_2 := fun _ => PUnit) (fun _ _ _ _ => none) (fun _ _ _ _ _ => none) (fun _ _ _ _ _ => none) (fun _ _ _ _ => none) (fun s lo hi f => loC lo 0 fun l => slhC s l hi f) (fun _ _ _ _ _ => none) (fun _ _ _ => none) (fun _ _ _ _ _ _ _ => none) (fun _ _ _ => none) (fun _ _ _ _ => none) (fun _ _ _ => none) (fun _ _ _ _ _ _ _ _ => none) (fun _ _ _ => none) (fun _ _ _ _ _ _ => none) (fun _ _ _ => none) (fun _ _ _ _ _ => none) (fun _ _ _ _ _ => none) ⟨⟩ (fun _ _ _ _ => ⟨⟩) x lo hi f
def optC (fr : T AV) (x : Option Opd) (f : Option AV → Res2) : Res2 := match x with | none => f none | some y => ob (opv fr y) fun v => f (some v)
theorem loC_eq (fr : T AV) (x : Option Opd) (d : Nat) (f : Nat → Res2) : (optC fr x fun v => loC v d f) = ob (optNat fr x d) f := by
  cases x with
  | none => rfl
  | some y =>
    show (ob (opv fr y) fun v => natC v f) = ob (ob (opv fr y) asNat) f
    cases opv fr y with
    | none => rfl
    | some v => exact natC_eq v f
theorem slstr_eq (fr : T AV) (s : List Nat) (l : Nat) (hi : Option Opd) (f : AV → Res2) : (optC fr hi fun hi => slhC s l hi f) = ob (slStr fr (.str s) l hi none) f := by
  cases hi with
  | none =>
    show (Bool.rec none (f (.str (dropN l s))) (Nat.ble l (lenL s)) : Res2) = ob (bif Nat.ble (lenL s) (lenL s) && Nat.ble l (lenL s) then ob (takeN (lenL s - l) (dropN l s)) fun r => some (.str r) else none) f
    rw [show Nat.ble (lenL s) (lenL s) = true from by rw [Nat.ble_eq]; exact Nat.le_refl _]
    cases hb : Nat.ble l (lenL s) with
    | false => rfl
    | true =>
      have hb := Nat.le_of_ble_eq_true hb
      rw [takeN_full (l := dropN l s) (n := lenL s - l) (by rw [dropN_eq, List.length_drop, lenL_eq])]; rfl
  | some y =>
    show (ob (opv fr y) fun v => natC v fun h => _) = ob (ob (ob (opv fr y) asNat) fun h => _) f
    cases opv fr y with
    | none => rfl
    | some v =>
      show (natC v fun h => Bool.rec none (Bool.rec none (obQ (takeN (Nat.sub h l) (dropN l s)) fun r => f (.str r)) (Nat.ble l h)) (Nat.ble h (lenL s))) = ob (ob (asNat v) fun h => bif Nat.ble h (lenL s) && Nat.ble l h then ob (takeN (h - l) (dropN l s)) fun r => some (.str r) else none) f
      rw [natC_eq]
      cases asNat v with
      | none => rfl
      | some h =>
        show (Bool.rec none (Bool.rec none (obQ (takeN (h - l) (dropN l s)) fun r => f (.str r)) (Nat.ble l h)) (Nat.ble h (lenL s)) : Res2) = ob (bif Nat.ble h (lenL s) && Nat.ble l h then ob (takeN (h - l) (dropN l s)) fun r => some (.str r) else none) f
        cases Nat.ble h (lenL s) with
        | false => rfl
        | true =>
          cases Nat.ble l h with
          | false => rfl
          | true => cases takeN (h - l) (dropN l s) <;> rfl
def sameK (k j : IntKind) : Bool := IntKind.rec (Nat.beq 0 (ikN j)) (Nat.beq 1 (ikN j)) (Nat.beq 2 (ikN j)) (Nat.beq 3 (ikN j)) (Nat.beq 4 (ikN j)) (Nat.beq 5 (ikN j)) false (Bool.rec (Nat.beq 7 (ikN j)) false t64) k
theorem sameK_eq {k j : IntKind} (h : sameK k j = true) : k = j ∧ notW k = true := by
  cases k <;> cases j <;> first
    | exact Bool.noConfusion (show false = true from h)
    | exact ⟨rfl, rfl⟩
    | (have h : (Bool.rec true false t64 : Bool) = true := h
       refine ⟨rfl, ?_⟩
       show (!t64) = true
       revert h; cases t64 <;> simp)
    | (have h : (Bool.rec false false t64 : Bool) = true := h
       revert h; cases t64 <;> simp)
theorem tokF_no' {k : IntKind} (h : notW k = true) (n : Int) : tokF k n = false := by
  cases k <;> first | rfl | exact Bool.noConfusion (show false = true from h) | (cases n <;> first | rfl | exact notW_64 h)
def binC (op : BinOp) (x y : AV) (f : AV → Res2) : Res2 :=
  match x, y with
  | .int k a, .int j b => bif sameK k j then (match op with
    | .add => f (.int k (wrQ k (addQ a b))) | .sub => f (.int k (wrQ k (a - b))) | .mul => f (.int k (wrQ k (a * b)))
    | .eql => f (.bool (eqQ a b)) | .neq => f (.bool (notQ (eqQ a b))) | .lss => f (.bool (ltQ a b)) | .leq => f (.bool (leQ a b)) | .gtr => f (.bool (ltQ b a)) | .geq => f (.bool (leQ b a))
    | op => obQ (binV op (.int k a) (.int j b)) f) else obQ (binV op (.int k a) (.int j b)) f
  | x, y => obQ (binV op x y) f
theorem binC_eq (op : BinOp) (x y : AV) (f : AV → Res2) : binC op x y f = ob (binV op x y) f := by
  unfold binC
  split
  · rename_i k a j b
    cases hb : sameK k j with
    | false => exact obQ_eq _ _
    | true =>
      obtain ⟨hk, hu⟩ := sameK_eq hb
      subst hk
      have hj : beqIK k k = true := by cases k <;> rfl
      cases op <;> simp only [cond_true, cond_false, Bool.or_false, obQ_eq, binV, hj, intBin, intB, tokF_no' hu, addQ_eq, wrQ_eq, eqQ_eq, notQ_eq, ltQ_eq, leQ_eq, ob_some]
  · exact obQ_eq _ _
def cpsP (q : PO) (fr : T AV) (f : AV → Res2) : Res2 :=
  match q with
  | .faddr off x => ob (opv fr x) fun x => faC off x f
  | .iaddr (.sl sz) x i => ob (opv fr x) fun x => ob (opv fr i) fun i => iasC sz x i f
  | .iaddr (.arr n sz) x i => ob (opv fr x) fun x => ob (opv fr i) fun i => iarC n sz x i f
  | .slice .str x lo hi none => ob (opv fr x) fun x => optC fr lo fun lo => optC fr hi fun hi => slC x lo hi f
  | .idxs x i => ob (opv fr x) fun x => ob (opv fr i) fun i => ixC x i f
  | .field off sz a x => ob (opv fr x) fun x => fldC off sz a x f
  | .ext x i => ob (opv fr x) fun x => extC x i f
  | .lenl x => ob (opv fr x) fun x => lenC x f
  | .nilck x => ob (opv fr x) fun x => nilckC x f
  | .bin op x y => ob (opv fr x) fun x => ob (opv fr y) fun y => binC op x y f
  | q => obQ (evP q fr) f
theorem cpsP_eq (q : PO) (fr : T AV) (f : AV → Res2) : cpsP q fr f = ob (evP q fr) f := by
  cases q <;> try first | exact obQ_eq _ _ | rfl
  case faddr off x =>
    show (ob (opv fr x) fun x => faC off x f) = ob (ob (opv fr x) fun x => _) f
    cases opv fr x with
    | none => rfl
    | some x => cases x <;> rfl
  case iaddr k x i =>
    cases k with
    | arr n sz =>
      show (ob (opv fr x) fun x => ob (opv fr i) fun i => iarC n sz x i f) = ob (ob (opv fr x) fun x => ob (opv fr i) fun i => ob (asNat i) fun i => _) f
      cases opv fr x with
      | none => rfl
      | some x =>
        rw [ob_some, ob_some]
        cases opv fr i with
        | none => rfl
        | some i =>
          rw [ob_some, ob_some]
          cases x <;> try (cases asNat i <;> rfl)
          rename_i b o
          show natC i (fun i => Bool.rec none (f (.ptr b (Nat.add o (Nat.mul i sz)))) (Nat.ble (Nat.succ i) n)) = ob (ob (asNat i) fun i => bif Nat.ble (Nat.succ i) n then some (.ptr b (Nat.add o (Nat.mul i sz))) else none) f
          rw [natC_eq]
          cases asNat i with
          | none => rfl
          | some k => rw [ob_some, ob_some]; cases Nat.ble (Nat.succ k) n <;> rfl
    | sl sz =>
      show (ob (opv fr x) fun x => ob (opv fr i) fun i => iasC sz x i f) = ob (ob (opv fr x) fun x => ob (opv fr i) fun i => ob (asNat i) fun i => _) f
      cases opv fr x with
      | none => rfl
      | some x =>
        rw [ob_some, ob_some]
        cases opv fr i with
        | none => rfl
        | some i =>
          rw [ob_some, ob_some]
          cases x <;> try (cases asNat i <;> rfl)
          rename_i b o len c
          show natC i (fun i => Bool.rec none (f (.ptr b (Nat.add o (Nat.mul i sz)))) (Nat.ble (Nat.succ i) len)) = ob (ob (asNat i) fun i => bif Nat.ble (Nat.succ i) len then some (.ptr b (Nat.add o (Nat.mul i sz))) else none) f
          rw [natC_eq]
          cases asNat i with
          | none => rfl
          | some n => rw [ob_some, ob_some]; cases Nat.ble (Nat.succ n) len <;> rfl
  case slice k x lo hi mx =>
    cases k with
    | sl sz => exact obQ_eq _ _
    | arr n sz => exact obQ_eq _ _
    | str =>
      cases mx with
      | some m => exact obQ_eq _ _
      | none =>
        show (ob (opv fr x) fun x => optC fr lo fun lo => optC fr hi fun hi => slC x lo hi f) = ob (ob (opv fr x) fun x => ob (optNat fr lo 0) fun l => slStr fr x l hi none) f
        cases opv fr x with
        | none => rfl
        | some x =>
          rw [ob_some, ob_some]
          have dead : (∀ v w, slC x v w f = none) → (∀ l, slStr fr x l hi none = none) → (optC fr lo fun lo => optC fr hi fun hi => slC x lo hi f) = ob (ob (optNat fr lo 0) fun l => slStr fr x l hi none) f := by
            intro h1 h2
            simp only [h1, h2]
            have e1 : ob (ob (optNat fr lo 0) fun _ => (none : Option AV)) f = none := by cases optNat fr lo 0 <;> rfl
            have e2 : (optC fr hi fun _ => (none : Res2)) = none := by
              cases hi with
              | none => rfl
              | some y => show (ob (opv fr y) fun _ => (none : Res2)) = none; cases opv fr y <;> rfl
            rw [e1, e2]
            cases lo with
            | none => rfl
            | some y => show (ob (opv fr y) fun _ => (none : Res2)) = none; cases opv fr y <;> rfl
          cases x <;> try exact dead (fun _ _ => rfl) (fun _ => rfl)
          rename_i s
          show (optC fr lo fun lo => optC fr hi fun hi => loC lo 0 fun l => slhC s l hi f) = ob (ob (optNat fr lo 0) fun l => slStr fr (.str s) l hi none) f
          have sw : (optC fr lo fun lo => optC fr hi fun hi => loC lo 0 fun l => slhC s l hi f) = optC fr lo fun lo => loC lo 0 fun l => optC fr hi fun hi => slhC s l hi f := by
            congr 1; funext lo
            cases hi with
            | none => rfl
            | some y =>
              show (ob (opv fr y) fun v => loC lo 0 fun l => slhC s l (some v) f) = loC lo 0 fun l => ob (opv fr y) fun v => slhC s l (some v) f
              cases opv fr y with
              | some v => rfl
              | none =>
                show (none : Res2) = loC lo 0 fun _ => none
                cases lo with
                | none => rfl
                | some v => show (none : Res2) = natC v fun _ => none; rw [natC_eq]; cases asNat v <;> rfl
          rw [sw]
          simp only [slstr_eq]
          rw [loC_eq]
          cases optNat fr lo 0 <;> rfl
  case idxs x i =>
    show (ob (opv fr x) fun x => ob (opv fr i) fun i => ixC x i f) = ob (ob (opv fr x) fun x => ob (opv fr i) fun i => ob (asNat i) fun i => _) f
    cases opv fr x with
    | none => rfl
    | some x =>
      rw [ob_some, ob_some]
      cases opv fr i with
      | none => rfl
      | some i =>
        rw [ob_some, ob_some]
        cases x <;> try (cases asNat i <;> rfl)
        rename_i s
        show natC i (fun i => obQ (nth s i) fun c => f (.int .u8 (.ofNat c))) = ob (ob (asNat i) fun i => ob (nth s i) fun c => some (.int .u8 (.ofNat c))) f
        rw [natC_eq]
        cases asNat i with
        | none => rfl
        | some n => rw [ob_some, ob_some]; cases nth s n <;> rfl
  case field off sz a x =>
    show (ob (opv fr x) fun x => fldC off sz a x f) = ob (ob (opv fr x) fun x => _) f
    cases opv fr x with
    | none => rfl
    | some x =>
      cases x <;> try rfl
      rename_i cs
      show obQ (takeN sz (dropN off cs)) (fun r => obQ (aggOf a r) f) = ob (ob (takeN sz (dropN off cs)) fun r => aggOf a r) f
      cases takeN sz (dropN off cs) with
      | none => rfl
      | some r => exact obQ_eq _ _
  case ext x i =>
    show (ob (opv fr x) fun x => extC x i f) = ob (ob (opv fr x) fun x => _) f
    cases opv fr x with
    | none => rfl
    | some x =>
      cases x <;> try rfl
      exact nthQ_eq _ _ _
  case lenl x =>
    show (ob (opv fr x) fun x => lenC x f) = ob (ob (opv fr x) fun x => _) f
    cases opv fr x with
    | none => rfl
    | some x => cases x <;> rfl
  case nilck x =>
    show (ob (opv fr x) fun x => nilckC x f) = ob (ob (opv fr x) fun x => _) f
    cases opv fr x with
    | none => rfl
    | some x => cases x <;> rfl
  case bin op x y =>
    show (ob (opv fr x) fun x => ob (opv fr y) fun y => binC op x y f) = ob (ob (opv fr x) fun x => ob (opv fr y) fun y => binV op x y) f
    cases opv fr x with
    | none => rfl
    | some x =>
      cases opv fr y with
      | none => rfl
      | some y => exact binC_eq _ _ _ _
def cpsL (q : LO) (fr : T AV) (h : HP) (f : AV → Res2) : Res2 :=
  match q with
  | .cell a => ob (opv fr a) fun a => cellC a h f
  | .cells n a => ob (opv fr a) fun a => cellsC n a h f
  | q => obQ (evL q fr h) f
theorem cpsL_eq (q : LO) (fr : T AV) (h : HP) (f : AV → Res2) : cpsL q fr h f = ob (evL q fr h) f := by
  cases q <;> try first | exact obQ_eq _ _ | rfl
  case cell a =>
    show (ob (opv fr a) fun a => cellC a h f) = ob (ob (opv fr a) fun a => cellV a h) f
    cases opv fr a with
    | none => rfl
    | some a => exact cellC_eq a h f
  case cells n a =>
    show (ob (opv fr a) fun a => cellsC n a h f) = ob (ob (opv fr a) fun a => cellsV n a h) f
    cases opv fr a with
    | none => rfl
    | some a => exact cellsC_eq n a h f

def iarCV (n sz : Nat) (a i : AV) (f : AV → Option AV) : Option AV := AV.rec (motive_1 := fun _ => Nat → Nat → AV → (AV → Option AV) → Option AV) (motive_2 := fun _ => PUnit) (fun _ _ _ _ _ => none) (fun _ _ _ _ _ _ => none) (fun _ _ _ _ _ _ => none) (fun _ _ _ _ _ => none) (fun _ _ _ _ _ => none) (fun b o n sz i f => natCV i fun i => Bool.rec none (f (.ptr b (Nat.add o (Nat.mul i sz)))) (Nat.ble (Nat.succ i) n)) (fun _ _ _ _ => none) (fun _ _ _ _ _ _ _ _ => none) (fun _ _ _ _ => none) (fun _ _ _ _ _ => none) (fun _ _ _ _ => none) (fun _ _ _ _ _ _ _ _ _ => none) (fun _ _ _ _ => none) (fun _ _ _ _ _ _ _ => none) (fun _ _ _ _ => none) (fun _ _ _ _ _ _ => none) (fun _ _ _ _ _ _ => none) ⟨⟩ (fun _ _ _ _ => ⟨⟩) a n sz i f
def loCV (x : Option AV) (d : Nat) (f : Nat → Option AV) : Option AV := Option.rec (motive := fun _ => Nat → (Nat → Option AV) → Option AV) (fun d f => f d) (fun v _ f => natCV v f) x d f
def slhCV (s : List Nat) (l : Nat) (hi : Option AV) (f : AV → Option AV) : Option AV := Option.rec (motive := fun _ => List Nat → Nat → (AV → Option AV) → Option AV) (fun s l f => Bool.rec none (f (.str (dropN l s))) (Nat.ble l (lenL s))) (fun v s l f => natCV v fun h => Bool.rec none (Bool.rec none (obQV (takeN (Nat.sub h l) (dropN l s)) fun r => f (.str r)) (Nat.ble l h)) (Nat.ble h (lenL s))) hi s l f
def slCV (x : AV) (lo hi : Option AV) (f : AV → Option AV) : Option AV := AV.rec (motive_1 := fun _ => Option AV → Option AV → (AV → Option AV) → Option AV) (motive_2 := fun _ => PUnit) (fun _ _ _ _ => none) (fun _ _ _ _ _ => none) (fun _ _ _ _ _ => none) (fun _ _ _ _ => none) (fun s lo hi f => loCV lo 0 fun l => slhCV s l hi f) (fun _ _ _ _ _ => none) (fun _ _ _ => none) (fun _ _ _ _ _ _ _ => none) (fun _ _ _ => none) (fun _ _ _ _ => none) (fun _ _ _ => none) (fun _ _ _ _ _ _ _ _ => none) (fun _ _ _ => none) (fun _ _ _ _ _ _ => none) (fun _ _ _ => none) (fun _ _ _ _ _ => none) (fun _ _ _ _ _ => none) ⟨⟩ (fun _ _ _ _ => ⟨⟩) x lo hi f
def optCV (fr : T AV) (x : Option Opd) (f : Option AV → Option AV) : Option AV := match x with | none => f none | some y => ob (opv fr y) fun v => f (some v)
theorem loCV_eq (fr : T AV) (x : Option Opd) (d : Nat) (f : Nat → Option AV) : (optCV fr x fun v => loCV v d f) = ob (optNat fr x d) f := by
  cases x with
  | none => rfl
  | some y =>
    show (ob (opv fr y) fun v => natCV v f) = ob (ob (opv fr y) asNat) f
    cases opv fr y with
    | none => rfl
    | some v => exact natCV_eq v f
theorem slstrV_eq (fr : T AV) (s : List Nat) (l : Nat) (hi : Option Opd) (f : AV → Option AV) : (optCV fr hi fun hi => slhCV s l hi f) = ob (slStr fr (.str s) l hi none) f := by
  cases hi with
  | none =>
    show (Bool.rec none (f (.str (dropN l s))) (Nat.ble l (lenL s)) : Option AV) = ob (bif Nat.ble (lenL s) (lenL s) && Nat.ble l (lenL s) then ob (takeN (lenL s - l) (dropN l s)) fun r => some (.str r) else none) f
    rw [show Nat.ble (lenL s) (lenL s) = true from by rw [Nat.ble_eq]; exact Nat.le_refl _]
    cases hb : Nat.ble l (lenL s) with
    | false => rfl
    | true =>
      have hb := Nat.le_of_ble_eq_true hb
      rw [takeN_full (l := dropN l s) (n := lenL s - l) (by rw [dropN_eq, List.length_drop, lenL_eq])]; rfl
  | some y =>
    show (ob (opv fr y) fun v => natCV v fun h => _) = ob (ob (ob (opv fr y) asNat) fun h => _) f
    cases opv fr y with
    | none => rfl
    | some v =>
      show (natCV v fun h => Bool.rec none (Bool.rec none (obQV (takeN (Nat.sub h l) (dropN l s)) fun r => f (.str r)) (Nat.ble l h)) (Nat.ble h (lenL s))) = ob (ob (asNat v) fun h => bif Nat.ble h (lenL s) && Nat.ble l h then ob (takeN (h - l) (dropN l s)) fun r => some (.str r) else none) f
      rw [natCV_eq]
      cases asNat v with
      | none => rfl
      | some h =>
        show (Bool.rec none (Bool.rec none (obQV (takeN (h - l) (dropN l s)) fun r => f (.str r)) (Nat.ble l h)) (Nat.ble h (lenL s)) : Option AV) = ob (bif Nat.ble h (lenL s) && Nat.ble l h then ob (takeN (h - l) (dropN l s)) fun r => some (.str r) else none) f
        cases Nat.ble h (lenL s) with
        | false => rfl
        | true =>
          cases Nat.ble l h with
          | false => rfl
          | true => cases takeN (h - l) (dropN l s) <;> rfl
def binCV (op : BinOp) (x y : AV) (f : AV → Option AV) : Option AV :=
  match x, y with
  | .int k a, .int j b => bif sameK k j then (match op with
    | .add => f (.int k (wrQ k (addQ a b))) | .sub => f (.int k (wrQ k (a - b))) | .mul => f (.int k (wrQ k (a * b)))
    | .eql => f (.bool (eqQ a b)) | .neq => f (.bool (notQ (eqQ a b))) | .lss => f (.bool (ltQ a b)) | .leq => f (.bool (leQ a b)) | .gtr => f (.bool (ltQ b a)) | .geq => f (.bool (leQ b a))
    | op => obQV (binV op (.int k a) (.int j b)) f) else obQV (binV op (.int k a) (.int j b)) f
  | x, y => obQV (binV op x y) f
theorem binCV_eq (op : BinOp) (x y : AV) (f : AV → Option AV) : binCV op x y f = ob (binV op x y) f := by
  unfold binCV
  split
  · rename_i k a j b
    cases hb : sameK k j with
    | false => exact obQV_eq _ _
    | true =>
      obtain ⟨hk, hu⟩ := sameK_eq hb
      subst hk
      have hj : beqIK k k = true := by cases k <;> rfl
      cases op <;> simp only [cond_true, cond_false, Bool.or_false, obQV_eq, binV, hj, intBin, intB, tokF_no' hu, addQ_eq, wrQ_eq, eqQ_eq, notQ_eq, ltQ_eq, leQ_eq, ob_some]
  · exact obQV_eq _ _
def cpsPV (q : PO) (fr : T AV) (f : AV → Option AV) : Option AV :=
  match q with
  | .faddr off x => ob (opv fr x) fun x => faCV off x f
  | .iaddr (.sl sz) x i => ob (opv fr x) fun x => ob (opv fr i) fun i => iasCV sz x i f
  | .iaddr (.arr n sz) x i => ob (opv fr x) fun x => ob (opv fr i) fun i => iarCV n sz x i f
  | .slice .str x lo hi none => ob (opv fr x) fun x => optCV fr lo fun lo => optCV fr hi fun hi => slCV x lo hi f
  | .idxs x i => ob (opv fr x) fun x => ob (opv fr i) fun i => ixCV x i f
  | .field off sz a x => ob (opv fr x) fun x => fldCV off sz a x f
  | .ext x i => ob (opv fr x) fun x => extCV x i f
  | .lenl x => ob (opv fr x) fun x => lenCV x f
  | .nilck x => ob (opv fr x) fun x => nilckCV x f
  | .bin op x y => ob (opv fr x) fun x => ob (opv fr y) fun y => binCV op x y f
  | q => obQV (evP q fr) f
theorem cpsPV_eq (q : PO) (fr : T AV) (f : AV → Option AV) : cpsPV q fr f = ob (evP q fr) f := by
  cases q <;> try first | exact obQV_eq _ _ | rfl
  case faddr off x =>
    show (ob (opv fr x) fun x => faCV off x f) = ob (ob (opv fr x) fun x => _) f
    cases opv fr x with
    | none => rfl
    | some x => cases x <;> rfl
  case iaddr k x i =>
    cases k with
    | arr n sz =>
      show (ob (opv fr x) fun x => ob (opv fr i) fun i => iarCV n sz x i f) = ob (ob (opv fr x) fun x => ob (opv fr i) fun i => ob (asNat i) fun i => _) f
      cases opv fr x with
      | none => rfl
      | some x =>
        rw [ob_some, ob_some]
        cases opv fr i with
        | none => rfl
        | some i =>
          rw [ob_some, ob_some]
          cases x <;> try (cases asNat i <;> rfl)
          rename_i b o
          show natCV i (fun i => Bool.rec none (f (.ptr b (Nat.add o (Nat.mul i sz)))) (Nat.ble (Nat.succ i) n)) = ob (ob (asNat i) fun i => bif Nat.ble (Nat.succ i) n then some (.ptr b (Nat.add o (Nat.mul i sz))) else none) f
          rw [natCV_eq]
          cases asNat i with
          | none => rfl
          | some k => rw [ob_some, ob_some]; cases Nat.ble (Nat.succ k) n <;> rfl
    | sl sz =>
      show (ob (opv fr x) fun x => ob (opv fr i) fun i => iasCV sz x i f) = ob (ob (opv fr x) fun x => ob (opv fr i) fun i => ob (asNat i) fun i => _) f
      cases opv fr x with
      | none => rfl
      | some x =>
        rw [ob_some, ob_some]
        cases opv fr i with
        | none => rfl
        | some i =>
          rw [ob_some, ob_some]
          cases x <;> try (cases asNat i <;> rfl)
          rename_i b o len c
          show natCV i (fun i => Bool.rec none (f (.ptr b (Nat.add o (Nat.mul i sz)))) (Nat.ble (Nat.succ i) len)) = ob (ob (asNat i) fun i => bif Nat.ble (Nat.succ i) len then some (.ptr b (Nat.add o (Nat.mul i sz))) else none) f
          rw [natCV_eq]
          cases asNat i with
          | none => rfl
          | some n => rw [ob_some, ob_some]; cases Nat.ble (Nat.succ n) len <;> rfl
  case slice k x lo hi mx =>
    cases k with
    | sl sz => exact obQV_eq _ _
    | arr n sz => exact obQV_eq _ _
    | str =>
      cases mx with
      | some m => exact obQV_eq _ _
      | none =>
        show (ob (opv fr x) fun x => optCV fr lo fun lo => optCV fr hi fun hi => slCV x lo hi f) = ob (ob (opv fr x) fun x => ob (optNat fr lo 0) fun l => slStr fr x l hi none) f
        cases opv fr x with
        | none => rfl
        | some x =>
          rw [ob_some, ob_some]
          have dead : (∀ v w, slCV x v w f = none) → (∀ l, slStr fr x l hi none = none) → (optCV fr lo fun lo => optCV fr hi fun hi => slCV x lo hi f) = ob (ob (optNat fr lo 0) fun l => slStr fr x l hi none) f := by
            intro h1 h2
            simp only [h1, h2]
            have e1 : ob (ob (optNat fr lo 0) fun _ => (none : Option AV)) f = none := by cases optNat fr lo 0 <;> rfl
            have e2 : (optCV fr hi fun _ => (none : Option AV)) = none := by
              cases hi with
              | none => rfl
              | some y => show (ob (opv fr y) fun _ => (none : Option AV)) = none; cases opv fr y <;> rfl
            rw [e1, e2]
            cases lo with
            | none => rfl
            | some y => show (ob (opv fr y) fun _ => (none : Option AV)) = none; cases opv fr y <;> rfl
          cases x <;> try exact dead (fun _ _ => rfl) (fun _ => rfl)
          rename_i s
          show (optCV fr lo fun lo => optCV fr hi fun hi => loCV lo 0 fun l => slhCV s l hi f) = ob (ob (optNat fr lo 0) fun l => slStr fr (.str s) l hi none) f
          have sw : (optCV fr lo fun lo => optCV fr hi fun hi => loCV lo 0 fun l => slhCV s l hi f) = optCV fr lo fun lo => loCV lo 0 fun l => optCV fr hi fun hi => slhCV s l hi f := by
            congr 1; funext lo
            cases hi with
            | none => rfl
            | some y =>
              show (ob (opv fr y) fun v => loCV lo 0 fun l => slhCV s l (some v) f) = loCV lo 0 fun l => ob (opv fr y) fun v => slhCV s l (some v) f
              cases opv fr y with
              | some v => rfl
              | none =>
                show (none : Option AV) = loCV lo 0 fun _ => none
                cases lo with
                | none => rfl
                | some v => show (none : Option AV) = natCV v fun _ => none; rw [natCV_eq]; cases asNat v <;> rfl
          rw [sw]
          simp only [slstrV_eq]
          rw [loCV_eq]
          cases optNat fr lo 0 <;> rfl
  case idxs x i =>
    show (ob (opv fr x) fun x => ob (opv fr i) fun i => ixCV x i f) = ob (ob (opv fr x) fun x => ob (opv fr i) fun i => ob (asNat i) fun i => _) f
    cases opv fr x with
    | none => rfl
    | some x =>
      rw [ob_some, ob_some]
      cases opv fr i with
      | none => rfl
      | some i =>
        rw [ob_some, ob_some]
        cases x <;> try (cases asNat i <;> rfl)
        rename_i s
        show natCV i (fun i => obQV (nth s i) fun c => f (.int .u8 (.ofNat c))) = ob (ob (asNat i) fun i => ob (nth s i) fun c => some (.int .u8 (.ofNat c))) f
        rw [natCV_eq]
        cases asNat i with
        | none => rfl
        | some n => rw [ob_some, ob_some]; cases nth s n <;> rfl
  case field off sz a x =>
    show (ob (opv fr x) fun x => fldCV off sz a x f) = ob (ob (opv fr x) fun x => _) f
    cases opv fr x with
    | none => rfl
    | some x =>
      cases x <;> try rfl
      rename_i cs
      show obQV (takeN sz (dropN off cs)) (fun r => obQV (aggOf a r) f) = ob (ob (takeN sz (dropN off cs)) fun r => aggOf a r) f
      cases takeN sz (dropN off cs) with
      | none => rfl
      | some r => exact obQV_eq _ _
  case ext x i =>
    show (ob (opv fr x) fun x => extCV x i f) = ob (ob (opv fr x) fun x => _) f
    cases opv fr x with
    | none => rfl
    | some x =>
      cases x <;> try rfl
      exact nthQV_eq _ _ _
  case lenl x =>
    show (ob (opv fr x) fun x => lenCV x f) = ob (ob (opv fr x) fun x => _) f
    cases opv fr x with
    | none => rfl
    | some x => cases x <;> rfl
  case nilck x =>
    show (ob (opv fr x) fun x => nilckCV x f) = ob (ob (opv fr x) fun x => _) f
    cases opv fr x with
    | none => rfl
    | some x => cases x <;> rfl
  case bin op x y =>
    show (ob (opv fr x) fun x => ob (opv fr y) fun y => binCV op x y f) = ob (ob (opv fr x) fun x => ob (opv fr y) fun y => binV op x y) f
    cases opv fr x with
    | none => rfl
    | some x =>
      cases opv fr y with
      | none => rfl
      | some y => exact binCV_eq _ _ _ _
def cpsLV (q : LO) (fr : T AV) (h : HP) (f : AV → Option AV) : Option AV :=
  match q with
  | .cell a => ob (opv fr a) fun a => cellCV a h f
  | .cells n a => ob (opv fr a) fun a => cellsCV n a h f
  | q => obQV (evL q fr h) f
theorem cpsLV_eq (q : LO) (fr : T AV) (h : HP) (f : AV → Option AV) : cpsLV q fr h f = ob (evL q fr h) f := by
  cases q <;> try first | exact obQV_eq _ _ | rfl
  case cell a =>
    show (ob (opv fr a) fun a => cellCV a h f) = ob (ob (opv fr a) fun a => cellV a h) f
    cases opv fr a with
    | none => rfl
    | some a => exact cellCV_eq a h f
  case cells n a =>
    show (ob (opv fr a) fun a => cellsCV n a h f) = ob (ob (opv fr a) fun a => cellsV n a h) f
    cases opv fr a with
    | none => rfl
    | some a => exact cellsCV_eq n a h f

def cpsE (q : EO) (fr : T AV) (h : HP) (f : AV → HP → Res2) : Res2 :=
  match q with
  | .store a x => ob (opv fr a) fun a => ob (opv fr x) fun x => stoC a x h fun h => f (.tup []) h
  | .stores n a x => ob (opv fr a) fun a => ob (opv fr x) fun x => stsC n a x h fun h => f (.tup []) h
  | q => obQ (evE q fr h) fun r => f r.1 r.2
theorem cpsE_eq (q : EO) (fr : T AV) (h : HP) (f : AV → HP → Res2) : cpsE q fr h f = ob (evE q fr h) fun r => f r.1 r.2 := by
  cases q <;> try first | exact obQ_eq _ _ | rfl
  case store a x =>
    show (ob (opv fr a) fun a => ob (opv fr x) fun x => stoC a x h fun h => f (.tup []) h) = ob (ob (opv fr a) fun a => ob (opv fr x) fun x => ob (storeV a x h) fun h => some (.tup [], h)) fun r => f r.1 r.2
    cases opv fr a with
    | none => rfl
    | some a =>
      cases opv fr x with
      | none => rfl
      | some x => rw [ob_some, ob_some, ob_some, ob_some, stoC_eq]; cases storeV a x h <;> rfl
  case stores n a x =>
    show (ob (opv fr a) fun a => ob (opv fr x) fun x => stsC n a x h fun h => f (.tup []) h) = ob (ob (opv fr a) fun a => ob (opv fr x) fun x => ob (storesV n a x h) fun h => some (.tup [], h)) fun r => f r.1 r.2
    cases opv fr a with
    | none => rfl
    | some a =>
      cases opv fr x with
      | none => rfl
      | some x => rw [ob_some, ob_some, ob_some, ob_some, stsC_eq]; cases storesV n a x h <;> rfl
def HP.newQ (h : HP) (x : Blk) : HP := HP.rec (fun nx m x => ⟨Pos.succ nx, T.set (some x) nx m⟩) h x
theorem HP.newQ_eq (h : HP) (x : Blk) : h.newQ x = h.new x := by cases h; rfl
theorem HP.nxQ_eq (h : HP) : h.nxQ = h.nx := by cases h; rfl
end
end Go.Proofs.YtmoabbfdehaenaaGreatDoor.Ev

namespace Go.Proofs.YtmoabbfdehaenaaGreatDoor.Ev
open Go
noncomputable section

def mkT (l : List (Pos × AV)) : T AV := lrec .leaf (fun x _ t => T.set x.2 x.1 t) l
def cutL (live : List Pos) (fr : T AV) : Option (List (Pos × AV)) := lrec (some []) (fun p _ ih => ob (T.get p fr) fun v => ob ih fun r => some ((p, v) :: r)) live
inductive XL
  | nil
  | op (o : AOper) (ty : Ty) (r : XL)
  | split (g : Pos) (r : XL)
  | join (g : Pos) (live : List Pos) (r : XL)
  | ge (g : Pos) (b : XL) (d : Pos) (ty : Ty) (r : XL)

def XL.ops (l : XL) : List AOper := XL.rec [] (fun o _ _ ih => o :: ih) (fun _ _ ih => ih) (fun _ _ _ ih => ih) (fun _ _ _ _ _ ihb ih => ihb ++ ih) l

inductive XS
  | skip
  | ops (d : Bool) (l : XL)
  | seq (a b : XS)
  | cond (c : Opd) (a b : XS)
  | block (id : Nat) (b : XS)
  | scope (b : XS)
  | exit (id : Nat)
  | ret
  | rs (it : Pos) (off : Nat) (v : AV) (kill : List Pos)
def XS.code (c : XS) : ACode := XS.rec .skip (fun d l => .ops d l.ops) (fun _ _ a b => .seq a b) (fun c _ _ a b => .cond c a b) (fun i _ b => .block i b) (fun _ b => .scope b) (fun i => .exit i) .ret (fun it off v kill => .rstore it off v kill) c
inductive XC
  | s (a : XS)
  | ops (d : Bool) (l : XL)
  | opq (d : Bool) (l : XL) (c : XC)
  | seq (a : XS) (b : XC)
  | cond (c : Opd) (a b : XC)
  | sj (live : List Pos) (a b : XC)
  | block (id : Nat) (b : XC)
  | loop (live : List Pos) (b : XC)
  | scope (b : XC)
def XC.code (c : XC) : ACode :=
  XC.rec (fun a => a.code) (fun d l => .ops d l.ops) (fun d l _ c => .seq (.ops d l.ops) c) (fun a _ b => .seq a.code b) (fun c _ _ a b => .cond c a b) (fun _ _ _ a b => .seq a b) (fun i _ b => .block i b) (fun _ _ b => .loop b) (fun _ b => .scope b) c

def St.cut (live : List Pos) (st : St) (f : St → Res2) : Res2 := ob (cutL live st.fr) fun l => f ⟨mkT l, st.h, st.df, st.u⟩

structure FinK where
  f : Out → Res2
  k : Bool
section
variable (D : CallD) (m : Nat) (fin : FinK)

def pn (d : Bool) (c : Chain) (st : St) : Res2 := bif d && !fin.k && !(noDf st.df) then none else fin.f (.panic c st)
def evOC (op : AOp) : Bool → Option Pos → List Re → Ty → (St → Res2) → St → Res2 :=
  match op with
  | .p q => fun _ dst _ ty next st => cpsP q st.fr fun v => asTy ty v fun v => next ⟨putD dst v st.fr, st.h, st.df, st.u⟩
  | .a q => fun _ dst _ _ next st => obQ (evA q st.fr) fun r => next ⟨putD dst (vkV r.2 st.h.nxQ) st.fr, HP.newQ st.h r.1, st.df, st.u⟩
  | .l q => fun _ dst _ ty next st => cpsL q st.fr st.h fun v => asTy ty v fun v => next ⟨putD dst v st.fr, st.h, st.df, st.u⟩
  | .e q => fun _ dst re ty next st => cpsE q st.fr st.h fun v h => br (againE q re st.fr h) (asTy ty v fun v => next ⟨putD dst v st.fr, h, st.df, st.u⟩) none
  | .call c args => fun d dst re ty next st => obQ (target st.fr c args) fun t => calC D t.1 t.2 st.h (fun v h => br (again re st.fr h) (asTy ty v fun v => next ⟨putD dst v st.fr, h, st.df, st.u⟩) none) (fun c h => pn fin d c ⟨st.fr, h, st.df, st.u⟩)
  | .defer c args => fun _ dst re _ next st => obQ (target st.fr c args) fun t => br (again re st.fr st.h) (next ⟨putD dst (.tup []) st.fr, st.h, ⟨t.1, t.2⟩ :: st.df, st.u⟩) none
  | .panic x => fun d _ _ _ _ st => ob (opv st.fr x) fun x => match x with | .iface t v => pn fin d [(.iface t v, false)] st | _ => none
  | .recover => fun _ dst _ _ next st => match st.u with
    | .panicking ((v, false) :: older) => next ⟨putD dst v st.fr, st.h, st.df, .panicking ((v, true) :: older)⟩
    | .panicking _ => next ⟨putD dst .nili st.fr, st.h, st.df, st.u⟩
    | .returning => next ⟨putD dst .nili st.fr, st.h, st.df, st.u⟩
    | .no => none
  | .bad => fun _ _ _ _ _ _ => none
def evO (d : Bool) (o : AOper) (ty : Ty) (next : St → Res2) (st : St) : Res2 :=
  ob (wantedA o.guard st.fr) fun w => bif w then evOC D fin o.op d o.dst o.re ty next st else next ⟨putD o.dst (.tup []) st.fr, st.h, st.df, st.u⟩

def splitG {α : Type} (g : Pos) (fr : T AV) (f : T AV → Option α) : Option α :=
  match T.get g fr with
  | some (.bool b) => Bool.casesOn b (f (T.set (.bool false) g fr)) (f (T.set (.bool true) g fr))
  | _ => f fr
def isB (g : Pos) (fr : T AV) : Bool := match T.get g fr with | some (.bool _) => true | _ => false
def XL.dsts (b : XL) : List Pos := XL.rec [] (fun o _ _ ih => match o.dst with | some p => p :: ih | none => ih) (fun _ _ ih => ih) (fun _ _ _ ih => ih) (fun _ _ _ _ _ ihb ih => ihb ++ ih) b

def evD (b : XL) : Pos → T AV → HP → Option AV :=
  XL.rec (fun d fr _ => T.get d fr)
    (fun o ty _ ih d fr h => ob (wantedA o.guard fr) fun w => bif w then (match o.op with
      | .p q => cpsPV q fr fun v => asTyV ty v fun v => ih d (putD o.dst v fr) h
      | .l q => cpsLV q fr h fun v => asTyV ty v fun v => ih d (putD o.dst v fr) h
      | _ => none) else ih d (putD o.dst (.tup []) fr) h)
    (fun _ _ _ _ _ _ => none)
    (fun _ _ _ _ _ _ _ => none)
    (fun g b d' ty _ ihb ih d fr h => bif isB g fr then obQV (splitG g fr fun fr => ihb d' fr h) fun v => asTyV ty v fun v => ih d (T.set v d' (delL b.dsts fr)) h
      else obQV (ihb d' fr h) fun v => ih d (T.set v d' (delL b.dsts fr)) h) b

def evI (J : XL → (St → Res2) → St → Res2) (d : Bool) (l : XL) : (St → Res2) → St → Res2 :=
  XL.rec (fun kn st => kn st)
    (fun o ty _ ih kn st => evO D fin d o ty (ih kn) st)
    (fun g _ ih kn st => splitG g st.fr fun fr => ih kn ⟨fr, st.h, st.df, st.u⟩)
    (fun g live r ih kn st => bif isB g st.fr then st.cut live (J r (ih kn)) else ih kn st)
    (fun g b p ty _ _ ih kn st => bif isB g st.fr then obQ (splitG g st.fr fun fr => evD b p fr st.h) fun v => asTy ty v fun v => ih kn ⟨T.set v p (delL b.dsts st.fr), st.h, st.df, st.u⟩
      else obQ (evD b p st.fr st.h) fun v => ih kn ⟨T.set v p (delL b.dsts st.fr), st.h, st.df, st.u⟩) l

def noJ : XL → (St → Res2) → St → Res2 := fun _ f st => f st

def evS (c : XS) : (St → Res2) → (Nat → St → Res2) → St → Res2 :=
  XS.rec (fun kn _ st => kn st)
    (fun d l kn _ st => evI D fin noJ d l kn st)
    (fun _ _ iha ihb kn kx st => iha (ihb kn kx) kx st)
    (fun c _ _ iha ihb kn kx st => ob (opv st.fr c) fun v => match v with | .bool b => Bool.casesOn b (ihb kn kx st) (iha kn kx st) | _ => none)
    (fun id _ ih kn kx st => ih kn (fun i st => bif Nat.beq i id then kn st else kx i st) st)
    (fun _ ih kn kx st => ih kn kx st)
    (fun id _ kx st => kx id st)
    (fun _ _ st => fin.f (.ret st))
    (fun it off v kill kn _ st => ob (T.get it st.fr) fun a => obQ (rstoreH a off v st.u st.h) fun h => kn ⟨delL kill st.fr, h, st.df, st.u⟩) c

def evX (c : XC) : (St → Res2) → (Nat → St → Res2) → St → Res2 :=
  XC.rec (fun a kn kx st => evS D fin a kn kx st)
    (fun d l kn _ st => evI D fin noJ d l kn st)
    (fun d l _ ih kn kx st => evI D fin noJ d l (ih kn kx) st)
    (fun a _ ih kn kx st => evS D fin a (ih kn kx) kx st)
    (fun c _ _ iha ihb kn kx st => ob (opv st.fr c) fun v => match v with | .bool b => Bool.casesOn b (ihb kn kx st) (iha kn kx st) | _ => none)
    (fun live _ _ iha ihb kn kx st => iha (fun st => st.cut live (ihb kn kx)) kx st)
    (fun id _ ih kn kx st => ih kn (fun i st => bif Nat.beq i id then kn st else kx i st) st)
    (fun live _ ih _ kx st => st.cut live (nrec (fun _ => none) (fun _ g st => ih (fun st => st.cut live g) kx st) m))
    (fun _ ih kn kx st => ih kn kx st) c

inductive KF | sj (live : List Pos) (b : XC) | blk (id : Nat) | lp (live : List Pos) (g : St → Res2)
abbrev XE := XC → List KF → St → Res2

def runN (E : XE) (κ : List KF) : St → Res2 :=
  lrec (fun st => fin.f (.normal st)) (fun f κ ih st => match f with | .sj live b => st.cut live (E b κ) | .blk _ => ih st | .lp live g => st.cut live g) κ
def runX (E : XE) (κ : List KF) : Nat → St → Res2 :=
  lrec (fun _ _ => none) (fun f κ ih i st => match f with | .sj _ _ => ih i st | .blk id => bif Nat.beq i id then runN fin E κ st else ih i st | .lp _ _ => ih i st) κ

def stX (E : XE) (c : XC) : List KF → St → Res2 :=
  XC.rec (fun a κ st => evS D fin a (runN fin E κ) (runX fin E κ) st)
    (fun d l κ st => evI D fin (fun r _ st => E (.ops d r) κ st) d l (runN fin E κ) st)
    (fun d l c ih κ st => evI D fin (fun r _ st => E (.opq d r c) κ st) d l (ih κ) st)
    (fun a _ ih κ st => evS D fin a (ih κ) (runX fin E κ) st)
    (fun c _ _ iha ihb κ st => ob (opv st.fr c) fun v => match v with | .bool b => Bool.casesOn b (ihb κ st) (iha κ st) | _ => none)
    (fun live _ b iha _ κ st => iha (.sj live b :: κ) st)
    (fun id _ ih κ st => ih (.blk id :: κ) st)
    (fun live b _ κ st => st.cut live (nrec (fun _ => none) (fun _ g st => E b (.lp live g :: κ) st) m))
    (fun _ ih κ st => ih κ st) c

def kK (κ : List KF) : (St → Res2) × (Nat → St → Res2) :=
  lrec (fun st => fin.f (.normal st), fun _ _ => none) (fun f _ ih => match f with
    | .sj live b => (fun st => st.cut live (evX D m fin b ih.1 ih.2), ih.2)
    | .blk id => (ih.1, fun i st => bif Nat.beq i id then ih.1 st else ih.2 i st)
    | .lp live g => (fun st => st.cut live g, ih.2)) κ
def evE2 : XE := fun c κ st => evX D m fin c (kK D m fin κ).1 (kK D m fin κ).2 st

theorem runN_eq (κ : List KF) : runN fin (evE2 D m fin) κ = (kK D m fin κ).1 := by
  induction κ with
  | nil => rfl
  | cons f κ ih =>
    cases f with
    | sj live b => rfl
    | blk id => exact ih
    | lp live g => rfl
theorem runX_eq (κ : List KF) : runX fin (evE2 D m fin) κ = (kK D m fin κ).2 := by
  induction κ with
  | nil => rfl
  | cons f κ ih =>
    cases f with
    | sj live b => exact ih
    | blk id =>
      show (fun i st => bif Nat.beq i id then runN fin (evE2 D m fin) κ st else runX fin (evE2 D m fin) κ i st) = (fun i st => bif Nat.beq i id then (kK D m fin κ).1 st else (kK D m fin κ).2 i st)
      rw [ih, runN_eq]
    | lp live g => exact ih

def Fix (E : XE) : Prop := ∀ c κ, E c κ = stX D m fin E c κ

theorem evI_J (d : Bool) (J : XL → (St → Res2) → St → Res2) (kn : St → Res2) (l : XL) (hJ : ∀ r, J r (evI D fin noJ d r kn) = evI D fin noJ d r kn) : evI D fin J d l kn = evI D fin noJ d l kn := by
  induction l with
  | nil => rfl
  | op o ty r ih => funext st; show evO D fin d o ty (evI D fin J d r kn) st = evO D fin d o ty (evI D fin noJ d r kn) st; rw [ih]
  | split g r ih => funext st; show splitG g st.fr (fun fr => evI D fin J d r kn ⟨fr, st.h, st.df, st.u⟩) = splitG g st.fr (fun fr => evI D fin noJ d r kn ⟨fr, st.h, st.df, st.u⟩); rw [ih]
  | join g live r ih => funext st; show (bif isB g st.fr then st.cut live (J r (evI D fin J d r kn)) else evI D fin J d r kn st) = (bif isB g st.fr then st.cut live (evI D fin noJ d r kn) else evI D fin noJ d r kn st); rw [ih, hJ]
  | ge g b p ty r _ ih =>
    funext st
    show (bif isB g st.fr then obQ (splitG g st.fr fun fr => evD b p fr st.h) fun v => asTy ty v fun v => evI D fin J d r kn ⟨T.set v p (delL b.dsts st.fr), st.h, st.df, st.u⟩
      else obQ (evD b p st.fr st.h) fun v => evI D fin J d r kn ⟨T.set v p (delL b.dsts st.fr), st.h, st.df, st.u⟩) = (bif isB g st.fr then obQ (splitG g st.fr fun fr => evD b p fr st.h) fun v => asTy ty v fun v => evI D fin noJ d r kn ⟨T.set v p (delL b.dsts st.fr), st.h, st.df, st.u⟩
      else obQ (evD b p st.fr st.h) fun v => evI D fin noJ d r kn ⟨T.set v p (delL b.dsts st.fr), st.h, st.df, st.u⟩)
    rw [ih]

theorem stX_eq (c : XC) : ∀ κ, stX D m fin (evE2 D m fin) c κ = evE2 D m fin c κ := by
  induction c with
  | s a => intro κ; show (fun st => evS D fin a (runN fin (evE2 D m fin) κ) (runX fin (evE2 D m fin) κ) st) = _; rw [runN_eq, runX_eq]; rfl
  | ops d l =>
    intro κ
    show (fun st => evI D fin (fun r _ st => evE2 D m fin (.ops d r) κ st) d l (runN fin (evE2 D m fin) κ) st) = (fun st => evI D fin noJ d l (kK D m fin κ).1 st)
    rw [runN_eq]
    funext st
    exact congrFun (evI_J D fin d _ _ l fun r => rfl) st
  | opq d l c ih =>
    intro κ
    show (fun st => evI D fin (fun r _ st => evE2 D m fin (.opq d r c) κ st) d l (stX D m fin (evE2 D m fin) c κ) st) = (fun st => evI D fin noJ d l (evX D m fin c (kK D m fin κ).1 (kK D m fin κ).2) st)
    rw [ih]
    funext st
    exact congrFun (evI_J D fin d _ _ l fun r => rfl) st
  | seq a b ih =>
    intro κ
    show (fun st => evS D fin a (stX D m fin (evE2 D m fin) b κ) (runX fin (evE2 D m fin) κ) st) = _
    rw [ih, runX_eq]; rfl
  | cond c a b iha ihb =>
    intro κ
    funext st
    show (ob (opv st.fr c) fun v => match v with | .bool t => Bool.casesOn (motive := fun _ => Res2) t (stX D m fin (evE2 D m fin) b κ st) (stX D m fin (evE2 D m fin) a κ st) | _ => none) = _
    rw [iha, ihb]; rfl
  | sj live a b iha _ => intro κ; exact iha _
  | block id b ih => intro κ; exact ih _
  | loop live b _ => intro κ; rfl
  | scope b ih => intro κ; exact ih κ
theorem fix_ok : Fix D m fin (evE2 D m fin) := fun c κ => (stX_eq D m fin c κ).symm
end
end
end Go.Proofs.YtmoabbfdehaenaaGreatDoor.Ev

namespace Go.Proofs.YtmoabbfdehaenaaGreatDoor.Ev
open Go
noncomputable section

theorem ob_le {α β : Type} {x x' : Option α} {f f' : α → Option β} {r : β} (hx : ∀ a, x = some a → x' = some a) (hf : ∀ a, f a = some r → f' a = some r) (h : ob x f = some r) : ob x' f' = some r := by
  obtain ⟨a, ha, h⟩ := ob_eq h
  rw [hx a ha, ob_some]; exact hf a h

def T.le (fr fr' : T AV) : Prop := ∀ p v, T.get p fr = some v → T.get p fr' = some v
theorem T.le.refl (fr : T AV) : T.le fr fr := fun _ _ h => h
theorem T.le.trans {a b c : T AV} (h : T.le a b) (k : T.le b c) : T.le a c := fun p v x => k p v (h p v x)
theorem T.le.set {fr fr' : T AV} (h : T.le fr fr') (p : Pos) (v : AV) : T.le (T.set v p fr) (T.set v p fr') := by
  intro q u hu
  rw [T.get_set] at hu ⊢
  split at hu
  · rw [if_pos ‹_›]; exact hu
  · rw [if_neg ‹_›]; exact h q u hu
theorem T.le.put {fr fr' : T AV} (h : T.le fr fr') (d : Option Pos) (v : AV) : T.le (putD d v fr) (putD d v fr') := by
  cases d with
  | none => exact h
  | some p => exact h.set p v
theorem T.le.known {fr fr' : T AV} (h : T.le fr fr') {p : Pos} {v : AV} (hv : T.get p fr' = some v) : T.le (T.set v p fr) fr' := by
  intro q u hu
  rw [T.get_set] at hu
  split at hu
  · rename_i e; subst e; rw [hv]; exact hu
  · exact h q u hu

theorem cut_le : ∀ {live : List Pos} {fr : T AV} {l : List (Pos × AV)}, cutL live fr = some l → T.le (mkT l) fr
  | [], fr, l, h => by
    have h : some [] = some l := h
    simp only [Option.some.injEq] at h; subst h
    intro p v hv
    have hv : T.get p (.leaf : T AV) = some v := hv
    rw [get_leaf] at hv; simp at hv
  | p :: live, fr, l, h => by
    have h : (ob (T.get p fr) fun v => ob (cutL live fr) fun r => some ((p, v) :: r)) = some l := h
    obtain ⟨v, hv, h⟩ := ob_eq h
    obtain ⟨r, hr, h⟩ := ob_eq h
    simp only [Option.some.injEq] at h; subst h
    exact (cut_le hr).known hv

structure St.le (s s' : St) : Prop where
  fr : T.le s.fr s'.fr
  h : s.h = s'.h
  df : s.df = s'.df
  u : s.u = s'.u
theorem stle {fr fr' : T AV} (h : T.le fr fr') (hp : HP) (df : List ADef) (u : AMode) : St.le ⟨fr, hp, df, u⟩ ⟨fr', hp, df, u⟩ := ⟨h, rfl, rfl, rfl⟩

section
variable {fr fr' : T AV} (hle : T.le fr fr')
include hle
theorem opv_le {x : Opd} {v : AV} (h : opv fr x = some v) : opv fr' x = some v := by
  cases x with
  | t p => exact hle p v h
  | c v => exact h
theorem mapO_le : ∀ {xs : List Opd} {vs : List AV}, mapO (opv fr) xs = some vs → mapO (opv fr') xs = some vs
  | [], _, h => h
  | x :: xs, vs, h => by
    have h : Option.casesOn (motive := fun _ => Option (List AV)) (opv fr x) none (fun b => Option.casesOn (mapO (opv fr) xs) none (fun r => some (b :: r))) = some vs := h
    show Option.casesOn (motive := fun _ => Option (List AV)) (opv fr' x) none (fun b => Option.casesOn (mapO (opv fr') xs) none (fun r => some (b :: r))) = some vs
    cases hx : opv fr x with
    | none => rw [hx] at h; simp at h
    | some b =>
      rw [hx] at h
      cases hr : mapO (opv fr) xs with
      | none => rw [hr] at h; simp at h
      | some r => rw [hr] at h; rw [opv_le hle hx, mapO_le hr]; exact h
theorem fillA_le : ∀ {ps : List APart} {z cs : List AV}, fillA fr ps z = some cs → fillA fr' ps z = some cs
  | [], _, _, h => h
  | p :: ps, z, cs, h => by
    have h : (ob (opv fr p.x) fun v => bif Nat.beq (lenL v.cells) p.sz then ob (putAt v.cells p.off z) (fillA fr ps) else none) = some cs := h
    show (ob (opv fr' p.x) fun v => bif Nat.beq (lenL v.cells) p.sz then ob (putAt v.cells p.off z) (fillA fr' ps) else none) = some cs
    refine ob_le (fun _ => opv_le hle) (fun v hv => ?_) h
    obtain ⟨hb, hv⟩ := bif_eq hv
    rw [hb]
    exact ob_le (fun _ x => x) (fun z hz => fillA_le hz) hv
theorem optNat_le {x : Option Opd} {d n : Nat} (h : optNat fr x d = some n) : optNat fr' x d = some n := by
  cases x with
  | none => exact h
  | some x => exact ob_le (fun _ => opv_le hle) (fun _ h => h) h
theorem slStr_le {x : AV} {l : Nat} {hi mx : Option Opd} {v : AV} (h : slStr fr x l hi mx = some v) : slStr fr' x l hi mx = some v := by
  cases x <;> try exact h
  exact ob_le (fun _ => optNat_le hle) (fun _ h => h) h
theorem slArr_le {n sz : Nat} {x : AV} {l : Nat} {hi mx : Option Opd} {v : AV} (h : slArr fr n sz x l hi mx = some v) : slArr fr' n sz x l hi mx = some v := by
  cases x <;> try exact h
  exact ob_le (fun _ => optNat_le hle) (fun _ h => h) h
theorem slSl_le {sz : Nat} {x : AV} {l : Nat} {hi mx : Option Opd} {v : AV} (h : slSl fr sz x l hi mx = some v) : slSl fr' sz x l hi mx = some v := by
  cases x <;> try exact h
  · refine ob_le (fun _ => optNat_le hle) (fun k hk => ?_) h
    cases mx with
    | none => exact hk
    | some m => cases hi with
      | none => exact hk
      | some _ => exact ob_le (fun _ => opv_le hle) (fun _ h => h) hk
  · exact ob_le (fun _ => optNat_le hle) (fun _ h => h) h
theorem evP_le {q : PO} {v : AV} (h : evP q fr = some v) : evP q fr' = some v := by
  cases q with
  | mov x => exact opv_le hle h
  | pick c a b =>
    refine ob_le (fun _ => opv_le hle) (fun v hv => ?_) h
    cases v <;> try exact hv
    rename_i t; cases t
    · exact opv_le hle hv
    · exact opv_le hle hv
  | build z ps => exact ob_le (fun _ => fillA_le hle) (fun _ h => h) h
  | bin op x y => exact ob_le (fun _ => opv_le hle) (fun _ h => ob_le (fun _ => opv_le hle) (fun _ h => h) h) h
  | eqb n x y => exact ob_le (fun _ => opv_le hle) (fun _ h => ob_le (fun _ => opv_le hle) (fun _ h => h) h) h
  | eqs n fs q x y => exact ob_le (fun _ => opv_le hle) (fun _ h => ob_le (fun _ => opv_le hle) (fun _ h => h) h) h
  | eqn k n x y => exact ob_le (fun _ => opv_le hle) (fun _ h => ob_le (fun _ => opv_le hle) (fun _ h => h) h) h
  | un op x => exact ob_le (fun _ => opv_le hle) (fun _ h => h) h
  | conv c x => exact ob_le (fun _ => opv_le hle) (fun _ h => h) h
  | mkif t x => exact ob_le (fun _ => opv_le hle) (fun _ h => h) h
  | mkfn f a b => exact ob_le (fun _ => mapO_le hle) (fun _ h => ob_le (fun _ => mapO_le hle) (fun _ h => h) h) h
  | slice k x lo hi mx =>
    refine ob_le (fun _ => opv_le hle) (fun _ h => ob_le (fun _ => optNat_le hle) (fun _ h => ?_) h) h
    cases k with
    | str => exact slStr_le hle h
    | sl n => exact slSl_le hle h
    | arr n s => exact slArr_le hle h
  | faddr o x => exact ob_le (fun _ => opv_le hle) (fun _ h => h) h
  | field o s a x => exact ob_le (fun _ => opv_le hle) (fun _ h => h) h
  | iaddr k x i => exact ob_le (fun _ => opv_le hle) (fun _ h => ob_le (fun _ => opv_le hle) (fun _ h => h) h) h
  | idxs x i => exact ob_le (fun _ => opv_le hle) (fun _ h => ob_le (fun _ => opv_le hle) (fun _ h => h) h) h
  | idxa n s a x i => exact ob_le (fun _ => opv_le hle) (fun _ h => ob_le (fun _ => opv_le hle) (fun _ h => h) h) h
  | nilck x => exact ob_le (fun _ => opv_le hle) (fun _ h => h) h
  | tassert t z ok x => exact ob_le (fun _ => opv_le hle) (fun _ h => h) h
  | ext x i => exact ob_le (fun _ => opv_le hle) (fun _ h => h) h
  | lens x => exact ob_le (fun _ => opv_le hle) (fun _ h => h) h
  | lenl x => exact ob_le (fun _ => opv_le hle) (fun _ h => h) h
  | lenk n => exact h
  | mm m xs => exact ob_le (fun _ => mapO_le hle) (fun _ h => h) h
  | xt k xs => exact ob_le (fun _ => mapO_le hle) (fun _ h => h) h
theorem evA_le {q : AO} {v : Blk × VK} (h : evA q fr = some v) : evA q fr' = some v := by
  cases q with
  | new z => exact h
  | box x => exact ob_le (fun _ => opv_le hle) (fun _ h => h) h
  | bsl z n ps => exact ob_le (fun _ => fillA_le hle) (fun _ h => h) h
  | mkmap => exact h
  | mksl z b l c => exact ob_le (fun _ => opv_le hle) (fun _ h => ob_le (fun _ x => x) (fun _ h => ob_le (fun _ => opv_le hle) (fun _ h => h) h) h) h
theorem evL_le {q : LO} {hp : HP} {v : AV} (h : evL q fr hp = some v) : evL q fr' hp = some v := by
  cases q with
  | cell a => exact ob_le (fun _ => opv_le hle) (fun _ h => h) h
  | cells n a => exact ob_le (fun _ => opv_le hle) (fun _ h => h) h
  | lenm a => exact ob_le (fun _ => opv_le hle) (fun _ h => h) h
  | look q z ok m k => exact ob_le (fun _ => opv_le hle) (fun _ h => ob_le (fun _ => opv_le hle) (fun _ h => h) h) h
  | eqp n x y => exact ob_le (fun _ => opv_le hle) (fun _ h => ob_le (fun _ => opv_le hle) (fun _ h => h) h) h
  | bstr a => exact ob_le (fun _ => opv_le hle) (fun _ h => h) h
theorem evE_le {q : EO} {hp : HP} {v : AV × HP} (h : evE q fr hp = some v) : evE q fr' hp = some v := by
  cases q with
  | store a x => exact ob_le (fun _ => opv_le hle) (fun _ h => ob_le (fun _ => opv_le hle) (fun _ h => h) h) h
  | stores n a x => exact ob_le (fun _ => opv_le hle) (fun _ h => ob_le (fun _ => opv_le hle) (fun _ h => h) h) h
  | app s b x y => exact ob_le (fun _ => opv_le hle) (fun _ h => ob_le (fun _ => opv_le hle) (fun _ h => h) h) h
  | mset q m k v => exact ob_le (fun _ => opv_le hle) (fun _ h => ob_le (fun _ => opv_le hle) (fun _ h => ob_le (fun _ => opv_le hle) (fun _ h => h) h) h) h
  | mdel q m k => exact ob_le (fun _ => opv_le hle) (fun _ h => ob_le (fun _ => opv_le hle) (fun _ h => h) h) h
  | copy s d x => exact ob_le (fun _ => opv_le hle) (fun _ h => ob_le (fun _ => opv_le hle) (fun _ h => h) h) h
  | clearm m => exact ob_le (fun _ => opv_le hle) (fun _ h => h) h
  | mentry => exact h
  | st2 n1 n2 a b c d => exact ob_le (fun _ => opv_le hle) (fun _ h => ob_le (fun _ => opv_le hle) (fun _ h => ob_le (fun _ => opv_le hle) (fun _ h => ob_le (fun _ => opv_le hle) (fun _ h => h) h) h) h) h
  | ranges x => exact ob_le (fun _ => opv_le hle) (fun _ h => h) h
  | rangem x => exact ob_le (fun _ => opv_le hle) (fun _ h => h) h
  | sb x => exact ob_le (fun _ => opv_le hle) (fun _ h => h) h
  | nexts => exact h
theorem target_le {c : ACal} {as : List Opd} {t : Nat × List AV} (h : target fr c as = some t) : target fr' c as = some t := by
  refine ob_le (fun _ => mapO_le hle) (fun vs h => ?_) h
  cases c with
  | fn f => exact h
  | val x => exact ob_le (fun _ => opv_le hle) (fun _ h => h) h
theorem wantedA_le {g : Option (Pos × Bool)} {w : Bool} (h : wantedA g fr = some w) : wantedA g fr' = some w := by
  cases g with
  | none => exact h
  | some g => obtain ⟨p, want⟩ := g; exact ob_le (fun _ => hle p _) (fun _ h => h) h
theorem again1_le {x : Re} {hp : HP} (h : again1 x fr hp = true) : again1 x fr' hp = true := by
  unfold again1 at h ⊢
  cases hw : wantedA x.g fr with
  | none => rw [hw] at h; simp at h
  | some w =>
    rw [wantedA_le hle hw]
    rw [hw] at h
    cases w with
    | false => rfl
    | true =>
      simp only at h ⊢
      cases hl : evL x.l fr hp with
      | none => rw [hl] at h; simp at h
      | some v =>
        rw [evL_le hle hl]; rw [hl] at h
        cases hg : T.get x.d fr with
        | none => rw [hg] at h; simp at h
        | some w => rw [hle _ _ hg]; rw [hg] at h; exact h
theorem again_le {hp : HP} : ∀ {re : List Re}, again re fr hp = true → again re fr' hp = true
  | [], _ => rfl
  | x :: re, h => by
    have h : (Bool.casesOn (again1 x fr hp) false (again re fr hp) : Bool) = true := h
    show (Bool.casesOn (again1 x fr' hp) false (again re fr' hp) : Bool) = true
    cases hx : again1 x fr hp with
    | false => rw [hx] at h; simp at h
    | true => rw [hx] at h; rw [again1_le hle hx]; exact again_le h
theorem disj_le {q : EO} {l : LO} (h : disj q l fr = true) : disj q l fr' = true := by
  unfold disj at h ⊢
  split at h
  · rename_i a p ha hp
    obtain ⟨b, o, c, o', h1, h2, hne⟩ := farP_true h
    show farP (opv fr' a) (opv fr' p) = true
    rw [opv_le hle h1, opv_le hle h2]
    rw [h1, h2] at h; exact h
  · simp at h
theorem againE_le {q : EO} {hp : HP} : ∀ {re : List Re}, againE q re fr hp = true → againE q re fr' hp = true
  | [], _ => rfl
  | x :: re, h => by
    have h : (Bool.casesOn (bif disj q x.l fr then true else again1 x fr hp) false (againE q re fr hp) : Bool) = true := h
    show (Bool.casesOn (bif disj q x.l fr' then true else again1 x fr' hp) false (againE q re fr' hp) : Bool) = true
    cases hb : (bif disj q x.l fr then true else again1 x fr hp) with
    | false => rw [hb] at h; simp at h
    | true =>
      rw [hb] at h
      have : (bif disj q x.l fr' then true else again1 x fr' hp) = true := by
        cases hd : disj q x.l fr with
        | true => rw [disj_le hle hd]; rfl
        | false =>
          rw [hd] at hb
          have hb : again1 x fr hp = true := hb
          cases disj q x.l fr' with
          | true => rfl
          | false => exact again1_le hle hb
      rw [this]; exact againE_le h
theorem resV_le {r : ARes} {hp : HP} {v : AV} (h : resV r fr hp = some v) : resV r fr' hp = some v := by
  cases r with
  | tmp p => exact hle p v h
  | cell p => exact evL_le (q := .cell (.t p)) hle h
  | cells n p => exact evL_le (q := .cells n (.t p)) hle h
theorem resVs_le {hp : HP} : ∀ {rs : List ARes} {vs : List AV}, mapO (fun r => resV r fr hp) rs = some vs → mapO (fun r => resV r fr' hp) rs = some vs
  | [], _, h => h
  | x :: xs, vs, h => by
    have h : Option.casesOn (motive := fun _ => Option (List AV)) (resV x fr hp) none (fun b => Option.casesOn (mapO (fun r => resV r fr hp) xs) none (fun r => some (b :: r))) = some vs := h
    show Option.casesOn (motive := fun _ => Option (List AV)) (resV x fr' hp) none (fun b => Option.casesOn (mapO (fun r => resV r fr' hp) xs) none (fun r => some (b :: r))) = some vs
    cases hx : resV x fr hp with
    | none => rw [hx] at h; simp at h
    | some b =>
      rw [hx] at h
      cases hr : mapO (fun r => resV r fr hp) xs with
      | none => rw [hr] at h; simp at h
      | some r => rw [hr] at h; rw [resV_le hle hx, resVs_le hr]; exact h
theorem results_le {rs : List ARes} {hp : HP} {v : AV} (h : Ev.results rs fr hp = some v) : Ev.results rs fr' hp = some v :=
  ob_le (fun _ => resVs_le hle) (fun _ h => h) h
end

section
variable {D D' : CallD} {m : Nat} {fin : FinK}

def DLe (D D' : CallD) : Prop := ∀ f as h u r, D f as h u = some r → D' f as h u = some r
abbrev callOf (D : CallD) : CallF := fun f args h => ob (D f args h .no) fun r => some r.1

def PostO (fin : FinK) (d : Bool) (next : St → Res2) (r : Fin × AMode) : Out → Prop
  | .normal s' => ∃ s, St.le s s' ∧ next s = some r
  | .panic c s' => ∃ s, St.le s s' ∧ pn fin d c s = some r
  | _ => False

def evOne (call : CallF) (o : AOper) (s : St) : Option Out :=
  ob (wantedA o.guard s.fr) fun w => bif w then evOp call o s else some (.normal ⟨putD o.dst (.tup []) s.fr, s.h, s.df, s.u⟩)
theorem evOps_one (call : CallF) (o : AOper) (l : List AOper) (s : St) : evOps call (o :: l) s = ob (evOne call o s) fun r => match r with | .normal s' => evOps call l s' | r => some r := by
  show (ob (wantedA o.guard s.fr) fun w => bif w then ob (evOp call o s) fun r => (match r with | .normal s' => evOps call l s' | r => some r) else evOps call l ⟨putD o.dst (.tup []) s.fr, s.h, s.df, s.u⟩) = _
  unfold evOne
  cases wantedA o.guard s.fr with
  | none => rfl
  | some w => cases w <;> rfl

theorem br_eq {c : Bool} {x : Res2} {r : Fin × AMode} (h : br c x none = some r) : c = true ∧ x = some r := by
  cases c with
  | false => exact absurd h (by show ¬ (none : Res2) = some r; simp)
  | true => exact ⟨rfl, h⟩
theorem evO_ok (hD : DLe D D') {d : Bool} {o : AOper} {ty : Ty} {next : St → Res2} {st st' : St} {r : Fin × AMode} (h : evO D fin d o ty next st = some r) (hs : St.le st st') :
    ∃ out, evOne (callOf D') o st' = some out ∧ PostO fin d next r out := by
  obtain ⟨fr, hp, df, u⟩ := st
  obtain ⟨fr', hp', df', u'⟩ := st'
  obtain ⟨hfr, hh, hdf, hu⟩ := hs
  simp only at hfr hh hdf hu
  subst hh hdf hu
  obtain ⟨w, hw, h⟩ := ob_eq h
  have hw' := wantedA_le hfr hw
  have put : ∀ v, St.le ⟨putD o.dst v fr, hp, df, u⟩ ⟨putD o.dst v fr', hp, df, u⟩ := fun v => ⟨hfr.put o.dst v, rfl, rfl, rfl⟩
  cases w with
  | false =>
    refine ⟨.normal ⟨putD o.dst (.tup []) fr', hp, df, u⟩, ?_, _, put _, h⟩
    show ob (wantedA o.guard fr') _ = _
    rw [hw']; rfl
  | true =>
    have h : evOC D fin o.op d o.dst o.re ty next ⟨fr, hp, df, u⟩ = some r := h
    have hone : evOne (callOf D') o ⟨fr', hp, df, u⟩ = evOpC o.op (callOf D') o.dst o.re ⟨fr', hp, df, u⟩ := by
      show ob (wantedA o.guard fr') _ = _
      rw [hw']; rfl
    rw [hone]
    obtain ⟨dst, op, guard, re⟩ := o
    simp only at h put ⊢
    cases op with
    | p q =>
      obtain ⟨v, hv, h⟩ := ob_eq ((cpsP_eq q fr _).symm.trans (show (cpsP q fr fun v => asTy ty v fun v => next ⟨putD dst v fr, hp, df, u⟩) = some r from h))
      refine ⟨.normal ⟨putD dst v fr', hp, df, u⟩, ?_, _, put v, asTy_eq h⟩
      show ob (evP q fr') _ = _
      rw [evP_le hfr hv]; rfl
    | a q =>
      obtain ⟨v, hv, h⟩ := ob_eq ((obQ_eq _ _).symm.trans (show (obQ (evA q fr) fun v => next ⟨putD dst (vkV v.2 hp.nxQ) fr, HP.newQ hp v.1, df, u⟩) = some r from h))
      rw [HP.newQ_eq, HP.nxQ_eq] at h
      refine ⟨.normal ⟨putD dst (vkV v.2 hp.nx) fr', HP.new hp v.1, df, u⟩, ?_, _, stle (hfr.put dst _) _ _ _, h⟩
      show ob (evA q fr') _ = _
      rw [evA_le hfr hv]; rfl
    | l q =>
      obtain ⟨v, hv, h⟩ := ob_eq ((cpsL_eq q fr hp _).symm.trans (show (cpsL q fr hp fun v => asTy ty v fun v => next ⟨putD dst v fr, hp, df, u⟩) = some r from h))
      refine ⟨.normal ⟨putD dst v fr', hp, df, u⟩, ?_, _, put v, asTy_eq h⟩
      show ob (evL q fr' hp) _ = _
      rw [evL_le hfr hv]; rfl
    | e q =>
      obtain ⟨v, hv, h⟩ := ob_eq ((cpsE_eq q fr hp _).symm.trans (show (cpsE q fr hp fun v h => br (againE q re fr h) (asTy ty v fun w => next ⟨putD dst w fr, h, df, u⟩) none) = some r from h))
      obtain ⟨ha, h⟩ := br_eq h
      refine ⟨.normal ⟨putD dst v.1 fr', v.2, df, u⟩, ?_, _, stle (hfr.put dst _) _ _ _, asTy_eq h⟩
      show ob (evE q fr' hp) _ = _
      rw [evE_le hfr hv, ob_some, againE_le hfr ha]; rfl
    | call c args =>
      obtain ⟨t, ht, h⟩ := ob_eq ((obQ_eq _ _).symm.trans (show (obQ (target fr c args) fun t => calC D t.1 t.2 hp (fun v h => br (again re fr h) (asTy ty v fun v => next ⟨putD dst v fr, h, df, u⟩) none) (fun c h => pn fin d c ⟨fr, h, df, u⟩)) = some r from h))
      obtain ⟨f, hf, h⟩ := ob_eq ((obQ_eq _ _).symm.trans h)
      have e : evOpC (.call c args) (callOf D') dst re ⟨fr', hp, df, u⟩ = (match f.1 with
        | .ret v h => bif again re fr' h then some (.normal ⟨putD dst v fr', h, df, u⟩) else none
        | .pan c h => some (.panic c ⟨fr', h, df, u⟩)) := by
        show (ob (target fr' c args) fun t => ob (ob (D' t.1 t.2 hp .no) fun r => some r.1) fun f => match f with
          | .ret v h => bif again re fr' h then some (Out.normal ⟨putD dst v fr', h, df, u⟩) else none
          | .pan c h => some (Out.panic c ⟨fr', h, df, u⟩)) = _
        rw [target_le hfr ht, ob_some, hD _ _ _ _ _ hf]; rfl
      rw [e]
      cases hf1 : f.1 with
      | ret v h' =>
        rw [hf1] at h
        obtain ⟨ha, h⟩ := br_eq (show br (again re fr h') (asTy ty v fun v => next ⟨putD dst v fr, h', df, u⟩) none = some r from h)
        refine ⟨.normal ⟨putD dst v fr', h', df, u⟩, ?_, _, stle (hfr.put dst _) _ _ _, asTy_eq h⟩
        show (bif again re fr' h' then some (Out.normal ⟨putD dst v fr', h', df, u⟩) else none) = _
        rw [again_le hfr ha]; rfl
      | pan c h' =>
        rw [hf1] at h
        exact ⟨_, rfl, _, stle hfr _ _ _, h⟩
    | defer c args =>
      obtain ⟨t, ht, h⟩ := ob_eq ((obQ_eq _ _).symm.trans (show (obQ (target fr c args) fun t => br (again re fr hp) (next ⟨putD dst (.tup []) fr, hp, ⟨t.1, t.2⟩ :: df, u⟩) none) = some r from h))
      obtain ⟨ha, h⟩ := br_eq h
      refine ⟨.normal ⟨putD dst (.tup []) fr', hp, ⟨t.1, t.2⟩ :: df, u⟩, ?_, _, stle (hfr.put dst _) _ _ _, h⟩
      show ob (target fr' c args) _ = _
      rw [target_le hfr ht, ob_some, again_le hfr ha]; rfl
    | panic x =>
      obtain ⟨v, hv, h⟩ := ob_eq (show (ob (opv fr x) fun x => match x with | .iface t v => pn fin d [(.iface t v, false)] ⟨fr, hp, df, u⟩ | _ => none) = some r from h)
      cases v <;> try (simp at h; done)
      rename_i t v
      refine ⟨.panic [(.iface t v, false)] ⟨fr', hp, df, u⟩, ?_, _, stle hfr _ _ _, h⟩
      show ob (opv fr' x) _ = _
      rw [opv_le hfr hv]; rfl
    | recover =>
      clear hone
      cases u with
      | no => exact absurd h (by show ¬ (none : Res2) = some r; simp)
      | returning => exact ⟨_, rfl, _, put .nili, h⟩
      | panicking c =>
        cases c with
        | nil => exact ⟨_, rfl, _, put .nili, h⟩
        | cons e older =>
          obtain ⟨v, b⟩ := e
          cases b with
          | false => exact ⟨_, rfl, _, stle (hfr.put dst _) _ _ _, h⟩
          | true => exact ⟨_, rfl, _, put .nili, h⟩
    | bad => exact absurd h (by show ¬ (none : Res2) = some r; simp)
end
end
end Go.Proofs.YtmoabbfdehaenaaGreatDoor.Ev

namespace Go.Proofs.YtmoabbfdehaenaaGreatDoor.Ev
open Go
variable [Rho]
noncomputable section
section
variable {D D' : CallD} {m : Nat} {fin : FinK} {K : List Pos}

theorem evOps_append (call : CallF) : ∀ (l r : List AOper) (s : St), evOps call (l ++ r) s = ob (evOps call l s) fun o => match o with | .normal s' => evOps call r s' | o => some o
  | [], r, s => rfl
  | o :: l, r, s => by
    rw [List.cons_append, evOps_one, evOps_one]
    cases evOne call o s with
    | none => rfl
    | some out =>
      cases out with
      | normal s' => exact evOps_append call l r s'
      | _ => rfl

theorem XL.ops_ge (g : Pos) (b : XL) (d : Pos) (ty : Ty) (r : XL) : (XL.ge g b d ty r).ops = b.ops ++ r.ops := rfl
theorem splitG_ok {α : Type} {g : Pos} {fr : T AV} {f : T AV → Option α} {r : α} (h : splitG g fr f = some r) : ∃ fr1, (∀ fr', T.le fr fr' → T.le fr1 fr') ∧ f fr1 = some r := by
  unfold splitG at h
  split at h
  · rename_i b hb
    cases b with
    | false => exact ⟨_, fun fr' hle => hle.known (hle _ _ hb), h⟩
    | true => exact ⟨_, fun fr' hle => hle.known (hle _ _ hb), h⟩
  · exact ⟨fr, fun _ h => h, h⟩

theorem evD_ok {call : CallF} : ∀ {b : XL} {d : Pos} {fr fr' : T AV} {h : HP} {df : List ADef} {u : AMode} {v : AV}, evD b d fr h = some v → T.le fr fr' →
    ∃ fr2, evOps call b.ops ⟨fr', h, df, u⟩ = some (.normal ⟨fr2, h, df, u⟩) ∧ T.get d fr2 = some v ∧ ∀ q, q ∉ b.dsts → T.get q fr2 = T.get q fr'
  | .nil, d, fr, fr', h, df, u, v, he, hle => ⟨fr', rfl, hle d v he, fun _ _ => rfl⟩
  | .op o ty r, d, fr, fr', h, df, u, v, he, hle => by
    have he : (ob (wantedA o.guard fr) fun w => bif w then (match o.op with
      | .p q => cpsPV q fr fun v => asTyV ty v fun v => evD r d (putD o.dst v fr) h
      | .l q => cpsLV q fr h fun v => asTyV ty v fun v => evD r d (putD o.dst v fr) h
      | _ => none) else evD r d (putD o.dst (.tup []) fr) h) = some v := he
    obtain ⟨w, hw, he⟩ := ob_eq he
    have hw' := wantedA_le hle hw
    have key : ∀ x, evD r d (putD o.dst x fr) h = some v → evOne call o ⟨fr', h, df, u⟩ = some (.normal ⟨putD o.dst x fr', h, df, u⟩) →
        ∃ fr2, evOps call (XL.op o ty r).ops ⟨fr', h, df, u⟩ = some (.normal ⟨fr2, h, df, u⟩) ∧ T.get d fr2 = some v ∧ ∀ q, q ∉ (XL.op o ty r).dsts → T.get q fr2 = T.get q fr' := by
      intro x hx hone
      obtain ⟨fr2, h1, h2, h3⟩ := evD_ok (call := call) (df := df) (u := u) hx (hle.put o.dst x)
      refine ⟨fr2, ?_, h2, fun q hq => ?_⟩
      · show evOps call (o :: r.ops) _ = _
        rw [evOps_one, hone]; exact h1
      · have hq : q ∉ (match o.dst with | some p => p :: r.dsts | none => r.dsts) := hq
        cases hd : o.dst with
        | none => rw [hd] at hq h3; exact h3 q hq
        | some p =>
          rw [hd] at hq h3
          simp only [List.mem_cons, not_or] at hq
          rw [h3 q hq.2]
          exact T.get_set_ne _ hq.1 _
    cases w with
    | false =>
      refine key (.tup []) he ?_
      show ob (wantedA o.guard fr') _ = _
      rw [hw']; rfl
    | true =>
      have he : (match o.op with
        | .p q => cpsPV q fr fun v => asTyV ty v fun v => evD r d (putD o.dst v fr) h
        | .l q => cpsLV q fr h fun v => asTyV ty v fun v => evD r d (putD o.dst v fr) h
        | _ => none) = some v := he
      obtain ⟨dst, op, guard, re⟩ := o
      simp only at he hw' key
      have one : ∀ x, evOpC op call dst re ⟨fr', h, df, u⟩ = some (.normal ⟨putD dst x fr', h, df, u⟩) → evOne call ⟨dst, op, guard, re⟩ ⟨fr', h, df, u⟩ = some (.normal ⟨putD dst x fr', h, df, u⟩) := by
        intro x hx
        show ob (wantedA guard fr') _ = _
        rw [hw']; exact hx
      cases op with
      | p q =>
        obtain ⟨x, hx, he⟩ := ob_eq ((cpsPV_eq _ _ _).symm.trans he)
        refine key x (asTyV_eq he) (one x ?_)
        show ob (evP q fr') _ = _
        rw [evP_le hle hx]; rfl
      | l q =>
        obtain ⟨x, hx, he⟩ := ob_eq ((cpsLV_eq _ _ _ _).symm.trans he)
        refine key x (asTyV_eq he) (one x ?_)
        show ob (evL q fr' h) _ = _
        rw [evL_le hle hx]; rfl
      | _ => simp at he
  | .split g r, d, fr, fr', h, df, u, v, he, hle => by
    have he : (none : Option AV) = some v := he
    simp at he
  | .join g live r, d, fr, fr', h, df, u, v, he, hle => by
    have he : (none : Option AV) = some v := he
    simp at he
  | .ge g b d' ty r, d, fr, fr', h, df, u, v, he, hle => by
    have he : (bif isB g fr then obQV (splitG g fr fun fr => evD b d' fr h) fun x => asTyV ty x fun x => evD r d (T.set x d' (delL b.dsts fr)) h
      else obQV (evD b d' fr h) fun x => evD r d (T.set x d' (delL b.dsts fr)) h) = some v := he
    have key : ∀ x fr1, T.le fr1 fr' → evD b d' fr1 h = some x → evD r d (T.set x d' (delL b.dsts fr)) h = some v →
        ∃ fr2, evOps call (XL.ge g b d' ty r).ops ⟨fr', h, df, u⟩ = some (.normal ⟨fr2, h, df, u⟩) ∧ T.get d fr2 = some v ∧ ∀ q, q ∉ (XL.ge g b d' ty r).dsts → T.get q fr2 = T.get q fr' := by
      intro x fr1 hle1 hb hr
      obtain ⟨fr2, h1, h2, h3⟩ := evD_ok (call := call) (df := df) (u := u) hb hle1
      have hle2 : T.le (T.set x d' (delL b.dsts fr)) fr2 := by
        refine T.le.known (fun q y hy => ?_) h2
        obtain ⟨hn, hy⟩ := delL_get _ _ _ _ hy
        rw [h3 q hn]; exact hle q y hy
      obtain ⟨fr3, k1, k2, k3⟩ := evD_ok (call := call) (df := df) (u := u) hr hle2
      refine ⟨fr3, ?_, k2, fun q hq => ?_⟩
      · rw [XL.ops_ge, evOps_append, h1]; exact k1
      · have hq : q ∉ b.dsts ++ r.dsts := hq
        simp only [List.mem_append, not_or] at hq
        rw [k3 q hq.2, h3 q hq.1]
    cases hi : isB g fr with
    | true =>
      rw [hi] at he
      obtain ⟨x, hx, he⟩ := ob_eq ((obQV_eq _ _).symm.trans he)
      obtain ⟨fr1, h1, h2⟩ := splitG_ok hx
      exact key x fr1 (h1 fr' hle) h2 (asTyV_eq he)
    | false =>
      rw [hi] at he
      obtain ⟨x, hx, he⟩ := ob_eq ((obQV_eq _ _).symm.trans he)
      exact key x fr hle hx he

theorem evI_ok (hD : DLe D D') {d : Bool} {kn : St → Res2} {r : Fin × AMode} : ∀ {l : XL} {st st' : St}, evI D fin noJ d l kn st = some r → St.le st st' →
    ∃ out, evOps (callOf D') l.ops st' = some out ∧ PostO fin d kn r out
  | .nil, st, st', h, hs => ⟨.normal st', rfl, st, hs, h⟩
  | .op o ty rest, st, st', h, hs => by
    obtain ⟨out, h1, h2⟩ := evO_ok (next := evI D fin noJ d rest kn) hD h hs
    show ∃ out, evOps (callOf D') (o :: rest.ops) st' = some out ∧ _
    rw [evOps_one, h1]
    cases out with
    | normal s' =>
      obtain ⟨s, k1, k2⟩ := h2
      exact evI_ok hD k2 k1
    | panic c s' => exact ⟨_, rfl, h2⟩
    | exit i s' => exact h2.elim
    | ret s' => exact h2.elim
  | .split g rest, st, st', h, hs => by
    obtain ⟨fr1, h1, h2⟩ := splitG_ok (show splitG g st.fr (fun fr => evI D fin noJ d rest kn ⟨fr, st.h, st.df, st.u⟩) = some r from h)
    exact evI_ok (l := rest) hD h2 ⟨h1 _ hs.fr, hs.h, hs.df, hs.u⟩
  | .join g live rest, st, st', h, hs => by
    have h : (bif isB g st.fr then st.cut live (evI D fin noJ d rest kn) else evI D fin noJ d rest kn st) = some r := h
    cases hi : isB g st.fr with
    | true =>
      rw [hi] at h
      obtain ⟨l, hl, h⟩ := ob_eq (show (ob (cutL live st.fr) fun l => evI D fin noJ d rest kn ⟨mkT l, st.h, st.df, st.u⟩) = some r from h)
      exact evI_ok (l := rest) hD h ⟨(cut_le hl).trans hs.fr, hs.h, hs.df, hs.u⟩
    | false =>
      rw [hi] at h
      exact evI_ok (l := rest) hD h hs
  | .ge g b p ty rest, st, st', h, hs => by
    have h : (bif isB g st.fr then obQ (splitG g st.fr fun fr => evD b p fr st.h) fun v => asTy ty v fun v => evI D fin noJ d rest kn ⟨T.set v p (delL b.dsts st.fr), st.h, st.df, st.u⟩
      else obQ (evD b p st.fr st.h) fun v => evI D fin noJ d rest kn ⟨T.set v p (delL b.dsts st.fr), st.h, st.df, st.u⟩) = some r := h
    have key : ∀ x fr1, T.le fr1 st'.fr → evD b p fr1 st.h = some x → evI D fin noJ d rest kn ⟨T.set x p (delL b.dsts st.fr), st.h, st.df, st.u⟩ = some r →
        ∃ out, evOps (callOf D') (XL.ge g b p ty rest).ops st' = some out ∧ PostO fin d kn r out := by
      intro x fr1 hle1 hb hr
      obtain ⟨fr2, h1, h2, h3⟩ := evD_ok (call := callOf D') (df := st'.df) (u := st'.u) hb hle1
      rw [hs.h] at h1
      have hle2 : T.le (T.set x p (delL b.dsts st.fr)) fr2 := by
        refine T.le.known (fun q y hy => ?_) h2
        obtain ⟨hn, hy⟩ := delL_get _ _ _ _ hy
        rw [h3 q hn]; exact hs.fr q y hy
      rw [XL.ops_ge, evOps_append, h1]
      exact evI_ok (l := rest) hD hr ⟨hle2, hs.h, hs.df, hs.u⟩
    cases hi : isB g st.fr with
    | true =>
      rw [hi] at h
      obtain ⟨x, hx, h⟩ := ob_eq ((obQ_eq _ _).symm.trans h)
      obtain ⟨fr1, h1, h2⟩ := splitG_ok hx
      exact key x fr1 (h1 _ hs.fr) h2 (asTy_eq h)
    | false =>
      rw [hi] at h
      obtain ⟨x, hx, h⟩ := ob_eq ((obQ_eq _ _).symm.trans h)
      exact key x st.fr hs.fr hx h

structure LeK (K : List Pos) (s s' : St) : Prop where
  fr : ∀ q ∈ K, ∀ y, T.get q s.fr = some y → T.get q s'.fr = some y
  h : s.h = s'.h
  df : s.df = s'.df
  u : s.u = s'.u
theorem LeK.of {K : List Pos} {s s' : St} (h : St.le s s') : LeK K s s' := ⟨fun q _ y hy => h.fr q y hy, h.h, h.df, h.u⟩
def memP (p : Pos) (l : List Pos) : Bool := lrec false (fun q _ ih => Bool.rec ih true (beqPos p q)) l
theorem memP_no {p : Pos} : ∀ {l : List Pos}, memP p l = false → p ∉ l
  | [], _ => by simp
  | q :: l, h => by
    have h : (Bool.rec (memP p l) true (beqPos p q) : Bool) = false := h
    cases hb : beqPos p q with
    | true => rw [hb] at h; exact Bool.noConfusion (show true = false from h)
    | false =>
      rw [hb] at h
      have hne : p ≠ q := by rw [beqPos_eq] at hb; simpa using hb
      simp only [List.mem_cons, not_or]
      exact ⟨hne, memP_no h⟩
def apartK (K : List Pos) (l : List Pos) : Bool := lrec true (fun p _ ih => Bool.rec ih false (memP p K)) l
theorem apartK_ok {K : List Pos} : ∀ {l : List Pos}, apartK K l = true → ∀ q ∈ K, q ∉ l
  | [], _, q, _ => by simp
  | p :: l, h, q, hq => by
    have h : (Bool.rec (apartK K l) false (memP p K) : Bool) = true := h
    cases hb : memP p K with
    | true => rw [hb] at h; exact Bool.noConfusion (show false = true from h)
    | false =>
      rw [hb] at h
      simp only [List.mem_cons, not_or]
      exact ⟨fun e => memP_no hb (e ▸ hq), apartK_ok h q hq⟩
def okA (K : List Pos) (c : ACode) : Bool := crec true (fun d l => Bool.rec true (apartK K (dstL l)) d) (fun _ _ a b => Bool.rec false b a) (fun _ _ _ a b => Bool.rec false b a) (fun _ _ b => b) (fun _ b => b) (fun _ b => b) (fun _ => true) true true (fun _ _ _ _ => true) c
theorem okA_two {K : List Pos} {a b : Bool} (h : (Bool.rec false b a : Bool) = true) : a = true ∧ b = true := by
  cases a with
  | false => exact Bool.noConfusion (show false = true from h)
  | true => exact ⟨rfl, h⟩
structure Cont (fin : FinK) (K : List Pos) (kn : St → Res2) (kx : Nat → St → Res2) (rt : Out → Res2) : Prop where
  n : ∀ s s' r, St.le s s' → kn s = some r → rt (.normal s') = some r
  x : ∀ i s s' r, St.le s s' → kx i s = some r → rt (.exit i s') = some r
  r : ∀ s s' r, St.le s s' → fin.f (.ret s) = some r → rt (.ret s') = some r
  p : ∀ c s s' r, LeK K s s' → fin.f (.panic c s) = some r → rt (.panic c s') = some r

theorem ops_ok (hD : DLe D D') {d : Bool} {kn : St → Res2} {kx : Nat → St → Res2} {rt : Out → Res2} (hc : Cont fin K kn kx rt) {l : XL} (hk : fin.k = true → okA K (.ops d l.ops) = true) {st st' : St} {r : Fin × AMode} (h : evI D fin noJ d l kn st = some r) (hs : St.le st st') :
    ob (evC (callOf D') m (.ops d l.ops) st') rt = some r := by
  obtain ⟨out, h1, h2⟩ := evI_ok hD h hs
  rw [evC_ops, h1, ob_some, ob_some]
  cases out with
  | normal s' => obtain ⟨s, k1, k2⟩ := h2; exact hc.n s s' r k1 k2
  | panic c s' =>
    obtain ⟨s, k1, k2⟩ := h2
    have k2 : (bif d && !fin.k && !(noDf s.df) then none else fin.f (.panic c s)) = some r := k2
    rw [k1.df] at k2
    show rt (.panic c (bif d && !(noDf s'.df) then ⟨delL (dstL l.ops) s'.fr, s'.h, s'.df, s'.u⟩ else s')) = some r
    cases hb : d && !(noDf s'.df) with
    | true =>
      have hd : d = true := by cases d <;> simp_all
      have hn : (!(noDf s'.df)) = true := by rw [hd] at hb; simpa using hb
      cases hf : fin.k with
      | false => rw [hf, hd, hn] at k2; simp at k2
      | true =>
        rw [hf, hd] at k2
        simp only [Bool.not_true, Bool.and_false, Bool.false_and, cond_false] at k2
        have ha : apartK K (dstL l.ops) = true := by have := hk hf; rw [hd] at this; exact this
        exact hc.p c s _ r ⟨fun q hq y hy => delL_put (apartK_ok ha q hq) (k1.fr q y hy), k1.h, k1.df, k1.u⟩ k2
    | false =>
      have hb2 : (d && !fin.k && !(noDf s'.df)) = false := by cases d <;> cases fin.k <;> simp_all
      rw [hb2] at k2; exact hc.p c s s' r (.of k1) k2
  | exit i s' => exact h2.elim
  | ret s' => exact h2.elim

def seqRt (call : CallF) (m : Nat) (b : ACode) (rt : Out → Res2) : Out → Res2 := fun o => match o with | .normal s' => ob (evC call m b s') rt | o => rt o
theorem ob_seq (call : CallF) (m : Nat) (a b : ACode) (s : St) (rt : Out → Res2) : ob (evC call m (.seq a b) s) rt = ob (evC call m a s) (seqRt call m b rt) := by
  rw [evC_seq]
  cases evC call m a s with
  | none => rfl
  | some o => cases o <;> rfl
def blkRt (id : Nat) (rt : Out → Res2) : Out → Res2 := fun o => match o with | .exit i s' => bif Nat.beq i id then rt (.normal s') else rt (.exit i s') | o => rt o
theorem ob_blk (call : CallF) (m : Nat) (id : Nat) (a : ACode) (s : St) (rt : Out → Res2) : ob (evC call m (.block id a) s) rt = ob (evC call m a s) (blkRt id rt) := by
  rw [evC_block]
  cases evC call m a s with
  | none => rfl
  | some o =>
    cases o <;> try rfl
    rename_i i s'
    show ob (bif Nat.beq i id then some (Out.normal s') else some (Out.exit i s')) rt = bif Nat.beq i id then rt (.normal s') else rt (.exit i s')
    cases Nat.beq i id <;> rfl
theorem Cont.seq {kn kn2 : St → Res2} {kx : Nat → St → Res2} {rt : Out → Res2} (hc : Cont fin K kn kx rt) {call : CallF} {b : ACode} (h : ∀ s s' r, St.le s s' → kn2 s = some r → ob (evC call m b s') rt = some r) : Cont fin K kn2 kx (seqRt call m b rt) :=
  ⟨h, hc.x, hc.r, hc.p⟩
theorem Cont.blk {kn : St → Res2} {kx : Nat → St → Res2} {rt : Out → Res2} (hc : Cont fin K kn kx rt) (id : Nat) : Cont fin K kn (fun i st => bif Nat.beq i id then kn st else kx i st) (blkRt id rt) := by
  refine ⟨hc.n, fun i s s' r hs h => ?_, hc.r, hc.p⟩
  show (bif Nat.beq i id then rt (.normal s') else rt (.exit i s')) = some r
  cases hb : Nat.beq i id with
  | true => rw [hb] at h; exact hc.n s s' r hs h
  | false => rw [hb] at h; exact hc.x i s s' r hs h
theorem cond_ok {call : CallF} {c : Opd} {a b : ACode} {ka kb : St → Res2} {st st' : St} {r : Fin × AMode} {rt : Out → Res2} (hs : St.le st st')
    (h : (ob (opv st.fr c) fun v => match v with | .bool t => Bool.casesOn (motive := fun _ => Res2) t (kb st) (ka st) | _ => none) = some r)
    (ha : ka st = some r → ob (evC call m a st') rt = some r) (hb : kb st = some r → ob (evC call m b st') rt = some r) : ob (evC call m (.cond c a b) st') rt = some r := by
  obtain ⟨v, hv, h⟩ := ob_eq h
  rw [evC_cond, opv_le hs.fr hv, ob_some]
  cases v <;> try (simp at h; done)
  rename_i t
  cases t with
  | false => exact hb h
  | true => exact ha h

theorem evS_ok (hD : DLe D D') : ∀ {c : XS} {kn : St → Res2} {kx : Nat → St → Res2} {rt : Out → Res2} {st st' : St} {r : Fin × AMode}, Cont fin K kn kx rt → (fin.k = true → okA K c.code = true) → evS D fin c kn kx st = some r → St.le st st' → ob (evC (callOf D') m c.code st') rt = some r
  | .skip, kn, kx, rt, st, st', r, hc, hk, h, hs => hc.n _ _ _ hs h
  | .ops d l, kn, kx, rt, st, st', r, hc, hk, h, hs => ops_ok hD hc hk h hs
  | .seq a b, kn, kx, rt, st, st', r, hc, hk, h, hs => by
    show ob (evC _ m (.seq a.code b.code) st') rt = _
    rw [ob_seq]
    exact evS_ok (c := a) hD (hc.seq fun s s' r k1 k2 => evS_ok (c := b) hD hc (fun e => (okA_two (K := K) (hk e)).2) k2 k1) (fun e => (okA_two (K := K) (hk e)).1) h hs
  | .cond c a b, kn, kx, rt, st, st', r, hc, hk, h, hs =>
    cond_ok (a := a.code) (b := b.code) (ka := evS D fin a kn kx) (kb := evS D fin b kn kx) hs h (fun h => evS_ok hD hc (fun e => (okA_two (K := K) (hk e)).1) h hs) (fun h => evS_ok hD hc (fun e => (okA_two (K := K) (hk e)).2) h hs)
  | .block id b, kn, kx, rt, st, st', r, hc, hk, h, hs => by
    show ob (evC _ m (.block id b.code) st') rt = _
    rw [ob_blk]
    exact evS_ok (c := b) hD (hc.blk id) hk h hs
  | .scope b, kn, kx, rt, st, st', r, hc, hk, h, hs => evS_ok (c := b) hD hc hk h hs
  | .exit id, kn, kx, rt, st, st', r, hc, hk, h, hs => hc.x id _ _ _ hs h
  | .ret, kn, kx, rt, st, st', r, hc, hk, h, hs => hc.r _ _ _ hs h
  | .rs it off v kill, kn, kx, rt, st, st', r, hc, hk, h, hs => by
    obtain ⟨a, ha, h⟩ := ob_eq (show (ob (T.get it st.fr) fun a => obQ (rstoreH a off v st.u st.h) fun h => kn ⟨delL kill st.fr, h, st.df, st.u⟩) = some r from h)
    obtain ⟨h2, hr, h⟩ := ob_eq ((obQ_eq _ _).symm.trans h)
    show ob (ob (T.get it st'.fr) fun a => ob (rstoreH a off v st'.u st'.h) fun h => some (Out.normal ⟨delL kill st'.fr, h, st'.df, st'.u⟩)) rt = some r
    rw [hs.fr it a ha, ob_some, ← hs.u, ← hs.h, hr, ob_some, ob_some]
    refine hc.n ⟨delL kill st.fr, h2, st.df, st.u⟩ _ r ⟨fun q y hy => ?_, rfl, hs.df, rfl⟩ h
    have hq := delL_get q st.fr y kill hy
    exact delL_put hq.1 (hs.fr q y hq.2)

theorem cutK {live : List Pos} {st st' : St} {f : St → Res2} {r : Fin × AMode} (h : st.cut live f = some r) (hs : St.le st st') : ∃ s, St.le s st' ∧ f s = some r := by
  obtain ⟨l, hl, h⟩ := ob_eq h
  exact ⟨⟨mkT l, st.h, st.df, st.u⟩, ⟨(cut_le hl).trans hs.fr, hs.h, hs.df, hs.u⟩, h⟩

theorem evX_ok (hD : DLe D D') : ∀ {c : XC} {kn : St → Res2} {kx : Nat → St → Res2} {rt : Out → Res2} {st st' : St} {r : Fin × AMode}, Cont fin K kn kx rt → (fin.k = true → okA K c.code = true) → evX D m fin c kn kx st = some r → St.le st st' → ob (evC (callOf D') m c.code st') rt = some r
  | .s a, kn, kx, rt, st, st', r, hc, hk, h, hs => evS_ok (c := a) hD hc hk h hs
  | .ops d l, kn, kx, rt, st, st', r, hc, hk, h, hs => ops_ok hD hc hk h hs
  | .opq d l c, kn, kx, rt, st, st', r, hc, hk, h, hs => by
    show ob (evC _ m (.seq (.ops d l.ops) c.code) st') rt = _
    rw [ob_seq]
    exact ops_ok hD (hc.seq fun s s' r k1 k2 => evX_ok (c := c) hD hc (fun e => (okA_two (K := K) (hk e)).2) k2 k1) (fun e => (okA_two (K := K) (hk e)).1) h hs
  | .seq a b, kn, kx, rt, st, st', r, hc, hk, h, hs => by
    show ob (evC _ m (.seq a.code b.code) st') rt = _
    rw [ob_seq]
    exact evS_ok (c := a) hD (hc.seq fun s s' r k1 k2 => evX_ok (c := b) hD hc (fun e => (okA_two (K := K) (hk e)).2) k2 k1) (fun e => (okA_two (K := K) (hk e)).1) h hs
  | .cond c a b, kn, kx, rt, st, st', r, hc, hk, h, hs =>
    cond_ok (a := a.code) (b := b.code) (ka := evX D m fin a kn kx) (kb := evX D m fin b kn kx) hs h (fun h => evX_ok hD hc (fun e => (okA_two (K := K) (hk e)).1) h hs) (fun h => evX_ok hD hc (fun e => (okA_two (K := K) (hk e)).2) h hs)
  | .sj live a b, kn, kx, rt, st, st', r, hc, hk, h, hs => by
    show ob (evC _ m (.seq a.code b.code) st') rt = _
    rw [ob_seq]
    refine evX_ok (c := a) hD (hc.seq fun s s' r k1 k2 => ?_) (fun e => (okA_two (K := K) (hk e)).1) h hs
    obtain ⟨s2, k3, k4⟩ := cutK k2 k1
    exact evX_ok (c := b) hD hc (fun e => (okA_two (K := K) (hk e)).2) k4 k3
  | .block id b, kn, kx, rt, st, st', r, hc, hk, h, hs => by
    show ob (evC _ m (.block id b.code) st') rt = _
    rw [ob_blk]
    exact evX_ok (c := b) hD (hc.blk id) hk h hs
  | .loop live b, kn, kx, rt, st, st', r, hc, hk, h, hs => by
    show ob (evC _ m (.loop b.code) st') rt = _
    rw [evC_loop]
    obtain ⟨s, hs, h⟩ := cutK (show st.cut live (nrec (fun _ => none) (fun _ g st => evX D m fin b (fun st => st.cut live g) kx st) m) = some r from h) hs
    have key : ∀ (n : Nat) (s s' : St) (r : Fin × AMode), St.le s s' → nrec (fun _ => none) (fun _ g st => evX D m fin b (fun st => st.cut live g) kx st) n s = some r → ob (loopN (evC (callOf D') m b.code) n s') rt = some r := by
      intro n
      induction n with
      | zero => intro s s' r _ h; have h : (none : Res2) = some r := h; simp at h
      | succ n ih =>
        intro s s' r hs h
        have e : ob (loopN (evC (callOf D') m b.code) (n + 1) s') rt = ob (evC (callOf D') m b.code s') (fun o => match o with | .normal s2 => ob (loopN (evC (callOf D') m b.code) n s2) rt | o => rt o) := by
          rw [loopN_succ]
          cases evC (callOf D') m b.code s' with
          | none => rfl
          | some o => cases o <;> rfl
        rw [e]
        refine evX_ok (c := b) (kn := fun st => st.cut live (nrec (fun _ => none) (fun _ g st => evX D m fin b (fun st => st.cut live g) kx st) n)) (kx := kx) hD ⟨fun s s' r k1 k2 => ?_, hc.x, hc.r, hc.p⟩ hk h hs
        obtain ⟨s2, k3, k4⟩ := cutK k2 k1
        exact ih s2 s' r k3 k4
    exact key m s st' r hs h
  | .scope b, kn, kx, rt, st, st', r, hc, hk, h, hs => evX_ok (c := b) hD hc hk h hs

theorem runDefers_le (hD : DLe D D') : ∀ (ds : List ADef) (u : AMode) (h : HP) (r : AMode × HP), runDefers D ds u h = some r → runDefers D' ds u h = some r
  | [], _, _, _, he => he
  | d :: ds, u, h, r, he => by
    rw [runDefers_cons] at he ⊢
    obtain ⟨x, hx, he⟩ := ob_eq he
    rw [hD _ _ _ _ _ hx, ob_some]
    cases hx1 : x.1 with
    | ret v h' => rw [hx1] at he; exact runDefers_le hD ds _ _ r he
    | pan c h' => rw [hx1] at he; exact runDefers_le hD ds _ _ r he

def gS (D : CallD) (res : List ARes) (u : AMode) (ds : List ADef) (mo : AMode) (hp : HP) (fr : T AV) : Res2 :=
  match u with
  | .no => ob (runDefers D ds mo hp) fun r => match r.1 with
    | .returning => ob (Ev.results res fr r.2) fun v => some (.ret v r.2, u)
    | .panicking c => some (.pan c r.2, u)
    | .no => none
  | _ => none
def resK (rs : List ARes) : List Pos := lrec [] (fun r _ ih => (match r with | .tmp p => p | .cell p => p | .cells _ p => p) :: ih) rs
theorem resVs_leK {fr fr' : T AV} {hp : HP} : ∀ {rs : List ARes} {vs : List AV}, (∀ q ∈ resK rs, ∀ y, T.get q fr = some y → T.get q fr' = some y) → mapO (fun r => resV r fr hp) rs = some vs → mapO (fun r => resV r fr' hp) rs = some vs
  | [], _, _, h => h
  | x :: xs, vs, hk, h => by
    have h : Option.casesOn (motive := fun _ => Option (List AV)) (resV x fr hp) none (fun b => Option.casesOn (mapO (fun r => resV r fr hp) xs) none (fun r => some (b :: r))) = some vs := h
    show Option.casesOn (motive := fun _ => Option (List AV)) (resV x fr' hp) none (fun b => Option.casesOn (mapO (fun r => resV r fr' hp) xs) none (fun r => some (b :: r))) = some vs
    cases hx : resV x fr hp with
    | none => rw [hx] at h; simp at h
    | some b =>
      rw [hx] at h
      cases hr : mapO (fun r => resV r fr hp) xs with
      | none => rw [hr] at h; simp at h
      | some r =>
        rw [hr] at h
        have h1 : resV x fr' hp = some b := by
          cases x with
          | tmp p => exact hk p (List.mem_cons_self ..) b hx
          | cell p =>
            obtain ⟨a, ha, hx⟩ := ob_eq (show (ob (T.get p fr) fun a => cellV a hp) = some b from hx)
            show (ob (T.get p fr') fun a => cellV a hp) = some b
            rw [hk p (List.mem_cons_self ..) a ha, ob_some]; exact hx
          | cells n p =>
            obtain ⟨a, ha, hx⟩ := ob_eq (show (ob (T.get p fr) fun a => cellsV n a hp) = some b from hx)
            show (ob (T.get p fr') fun a => cellsV n a hp) = some b
            rw [hk p (List.mem_cons_self ..) a ha, ob_some]; exact hx
        rw [h1, resVs_leK (fun q hq => hk q (List.mem_cons_of_mem _ hq)) hr]; exact h
theorem results_leK {fr fr' : T AV} {rs : List ARes} {hp : HP} {v : AV} (hk : ∀ q ∈ resK rs, ∀ y, T.get q fr = some y → T.get q fr' = some y) (h : Ev.results rs fr hp = some v) : Ev.results rs fr' hp = some v :=
  ob_le (fun _ => resVs_leK hk) (fun _ h => h) h
theorem finS_le (hD : DLe D D') {fn : AFn} {s s' : St} (hs : LeK (resK fn.res) s s') {mo : AMode} {r : Fin × AMode} (h : finS D fn s mo = some r) : finS D' fn s' mo = some r := by
  obtain ⟨fr, hp, df, u⟩ := s
  obtain ⟨fr', hp', df', u'⟩ := s'
  obtain ⟨hfr, hh, hdf, hu⟩ := hs
  simp only at hfr hh hdf hu
  subst hh hdf hu
  have gen : ∀ ds, gS D fn.res u ds mo hp fr = some r → gS D' fn.res u ds mo hp fr' = some r := by
    intro ds h
    cases u with
    | no =>
      refine ob_le (fun _ => runDefers_le hD _ _ _ _) (fun x hx => ?_) h
      cases hx1 : x.1 with
      | no => rw [hx1] at hx; simp at hx
      | returning => rw [hx1] at hx; exact ob_le (fun _ => results_leK hfr) (fun _ h => h) hx
      | panicking c => rw [hx1] at hx; exact hx
    | returning => exact absurd h (by show ¬ (none : Res2) = some r; simp)
    | panicking c => exact absurd h (by show ¬ (none : Res2) = some r; simp)
  unfold finS at h ⊢
  cases df with
  | nil =>
    cases mo with
    | no => exact gen [] h
    | returning => exact ob_le (fun _ => results_leK hfr) (fun _ h => h) h
    | panicking c => exact h
  | cons d ds => exact gen (d :: ds) h

structure XFn where
  tys : List Ty
  rcv : Bool
  res : List ARes
  body : XC
def XFn.fn (x : XFn) : AFn := ⟨lenL x.tys, x.res, x.body.code⟩

def unT (tys : List Ty) : List AV → (List AV → Res2) → Res2 :=
  lrec (fun args k => List.casesOn args (k []) (fun _ _ => none)) (fun ty _ ih args k => List.casesOn args none (fun a t => asTy ty a fun a => ih t fun l => k (a :: l))) tys
def zipP (l : List AV) : Pos → List (Pos × AV) := lrec (fun _ => []) (fun v _ ih p => (p, v) :: ih (Pos.succ p)) l
def noU (b : Bool) (u : AMode) (f : AMode → Res2) : Res2 := bif b then f u else AMode.rec (motive := fun _ => Res2) (f .no) none (fun _ => none) u

def resC1 (fr : T AV) (h : HP) (r : ARes) (f : AV → Res2) : Res2 :=
  match r with
  | .tmp p => ob (T.get p fr) f
  | .cell p => ob (T.get p fr) fun a => cellC a h f
  | .cells n p => ob (T.get p fr) fun a => cellsC n a h f
def resC (fr : T AV) (h : HP) (rs : List ARes) : (List AV → Res2) → Res2 := lrec (fun f => f []) (fun r _ ih f => resC1 fr h r fun v => ih fun vs => f (v :: vs)) rs
def tupR (vs : List AV) : AV := match vs with | [v] => v | vs => .tup vs
theorem resC1_eq (fr : T AV) (h : HP) (r : ARes) (f : AV → Res2) : resC1 fr h r f = ob (resV r fr h) f := by
  cases r with
  | tmp p => rfl
  | cell p =>
    show (ob (T.get p fr) fun a => cellC a h f) = ob (ob (T.get p fr) fun a => cellV a h) f
    cases T.get p fr with
    | none => rfl
    | some a => exact cellC_eq a h f
  | cells n p =>
    show (ob (T.get p fr) fun a => cellsC n a h f) = ob (ob (T.get p fr) fun a => cellsV n a h) f
    cases T.get p fr with
    | none => rfl
    | some a => exact cellsC_eq n a h f
theorem resC_eq (fr : T AV) (h : HP) : ∀ (rs : List ARes) (f : List AV → Res2), resC fr h rs f = ob (mapO (fun r => resV r fr h) rs) f
  | [], f => rfl
  | r :: rs, f => by
    show (resC1 fr h r fun v => resC fr h rs fun vs => f (v :: vs)) = ob (Option.casesOn (resV r fr h) none (fun b => Option.casesOn (mapO (fun r => resV r fr h) rs) none (fun r => some (b :: r)))) f
    rw [resC1_eq]
    cases resV r fr h with
    | none => rfl
    | some v =>
      show (resC fr h rs fun vs => f (v :: vs)) = ob (Option.casesOn (mapO (fun r => resV r fr h) rs) none (fun r => some (v :: r))) f
      rw [resC_eq fr h rs]
      cases mapO (fun r => resV r fr h) rs <;> rfl
def XFn.endOf (x : XFn) (D : CallD) : Out → Res2 := fun o =>
  match o with
  | .ret ⟨fr, h, [], u⟩ => resC fr h x.res fun vs => some (.ret (tupR vs) h, u)
  | .normal ⟨fr, h, [], u⟩ => resC fr h x.res fun vs => some (.ret (tupR vs) h, u)
  | o => finish D x.fn o
theorem XFn.endOf_eq (x : XFn) (D : CallD) (o : Out) : x.endOf D o = finish D x.fn o := by
  have key : ∀ fr h u, (resC fr h x.res fun vs => some (.ret (tupR vs) h, u)) = ob (Ev.results x.res fr h) fun v => (some (.ret v h, u) : Res2) := by
    intro fr h u
    rw [resC_eq]
    show _ = ob (ob (mapO (fun r => resV r fr h) x.res) fun vs => match vs with | [v] => some v | vs => some (.tup vs)) fun v => (some (.ret v h, u) : Res2)
    cases mapO (fun r => resV r fr h) x.res with
    | none => rfl
    | some vs => match vs with
      | [] => rfl
      | [v] => rfl
      | _ :: _ :: _ => rfl
  unfold XFn.endOf
  split
  · exact key _ _ _
  · exact key _ _ _
  · rfl
def XFn.finK (x : XFn) (D : CallD) : FinK := ⟨x.endOf D, okA (resK x.res) x.body.code⟩
def evFXE (x : XFn) (E : XE) (args : List AV) (h : HP) (u : AMode) : Res2 :=
  noU x.rcv u fun u => unT x.tys args fun l => E x.body [] ⟨mkT (zipP l .h), h, [], u⟩
def evFX (x : XFn) (D : CallD) (m : Nat) (args : List AV) (h : HP) (u : AMode) : Res2 :=
  noU x.rcv u fun u => unT x.tys args fun l => evE2 D m (x.finK D) x.body [] ⟨mkT (zipP l .h), h, [], u⟩

theorem unT_ok : ∀ {tys : List Ty} {args : List AV} {k : List AV → Res2} {r : Fin × AMode}, unT tys args k = some r → k args = some r
  | [], [], _, _, h => h
  | [], _ :: _, _, _, h => by have h : (none : Res2) = some _ := h; simp at h
  | _ :: _, [], _, _, h => by have h : (none : Res2) = some _ := h; simp at h
  | ty :: tys, a :: args, k, r, h => by
    have h : (asTy ty a fun a => unT tys args fun l => k (a :: l)) = some r := h
    exact unT_ok (k := fun l => k (a :: l)) (asTy_eq h)

theorem zipP_get : ∀ (l : List AV) (k : Nat) (q : Pos) (v : AV), T.get q (mkT (zipP l (posOf k))) = some v → ∃ t, q = posOf t ∧ k ≤ t ∧ l[t - k]? = some v
  | [], k, q, v, h => by
    have h : T.get q (.leaf : T AV) = some v := h
    rw [get_leaf] at h; simp at h
  | a :: l, k, q, v, h => by
    have h : T.get q (T.set a (posOf k) (mkT (zipP l (posOf (k + 1))))) = some v := h
    rw [T.get_set] at h
    split at h
    · rename_i e; exact ⟨k, e, Nat.le_refl _, by simpa using h⟩
    · obtain ⟨t, h1, h2, h3⟩ := zipP_get l (k + 1) q v h
      refine ⟨t, h1, by omega, ?_⟩
      rw [show t - k = (t - (k + 1)) + 1 from by omega]; simpa using h3
theorem zip_le (l : List AV) : T.le (mkT (zipP l .h)) (argsFr l .h .leaf) := by
  intro q v h
  obtain ⟨t, rfl, _, h3⟩ := zipP_get l 0 q v h
  rw [show Pos.h = posOf 0 from rfl, argsFr_get]
  have : t < l.length := by
    have := (List.getElem?_eq_some_iff.1 h3).1; omega
  rw [if_pos ⟨Nat.zero_le _, by omega⟩]; exact h3

theorem evFX_ok (hD : DLe D D') {x : XFn} {args : List AV} {h : HP} {u : AMode} {r : Fin × AMode} (he : evFX x D m args h u = some r) :
    (ob (evC (callOf D') m x.fn.body ⟨argsFr args .h .leaf, h, [], u⟩) fun o => finish D' x.fn o) = some r := by
  have he : (unT x.tys args fun l => evE2 D m (x.finK D) x.body [] ⟨mkT (zipP l .h), h, [], u⟩) = some r := by
    unfold evFX noU at he
    cases hr : x.rcv with
    | true => rw [hr] at he; exact he
    | false =>
      rw [hr] at he
      cases u with
      | no => exact he
      | _ => have he : (none : Res2) = some r := he; simp at he
  have he := unT_ok he
  have fle : ∀ o o' s s' mo, (o = Out.normal s ∧ o' = Out.normal s' ∧ mo = AMode.returning) ∨ (o = .ret s ∧ o' = .ret s' ∧ mo = .returning) ∨ (∃ c, o = .panic c s ∧ o' = .panic c s' ∧ mo = .panicking c) → LeK (resK x.res) s s' → ∀ r, x.endOf D o = some r → finish D' x.fn o' = some r := by
    intro o o' s s' mo ho hs r h
    rw [XFn.endOf_eq] at h
    rcases ho with ⟨rfl, rfl, rfl⟩ | ⟨rfl, rfl, rfl⟩ | ⟨c, rfl, rfl, rfl⟩
    · exact finS_le hD hs h
    · exact finS_le hD hs h
    · exact finS_le hD hs h
  have hc : Cont (x.finK D) (resK x.res) (kK D m (x.finK D) []).1 (kK D m (x.finK D) []).2 (finish D' x.fn) :=
    ⟨fun s s' r hs h => fle _ _ s s' _ (.inl ⟨rfl, rfl, rfl⟩) (.of hs) r h, fun i s s' r hs h => by have h : (none : Res2) = some r := h; simp at h,
     fun s s' r hs h => fle _ _ s s' _ (.inr (.inl ⟨rfl, rfl, rfl⟩)) (.of hs) r h, fun c s s' r hs h => fle _ _ s s' _ (.inr (.inr ⟨c, rfl, rfl, rfl⟩)) hs r h⟩
  exact evX_ok hD hc (fun e => e) he ⟨zip_le args, rfl, rfl, rfl⟩

abbrev SFn := CallD → Nat → List AV → HP → AMode → Res2
inductive ST
  | none
  | at (k : Nat) (x : XFn) (s : SFn)
  | pr (k : Nat) (p : List AV → HP → Option (AV × HP))
  | node (k : Nat) (l r : ST)
inductive Ent | none | s (x : SFn) | p (q : List AV → HP → Option (AV × HP))
def ST.find (t : ST) : Nat → Ent :=
  ST.rec (motive := fun _ => Nat → Ent) (fun _ => .none) (fun k _ s f => Bool.rec .none (.s s) (Nat.beq f k)) (fun k p f => Bool.rec .none (.p p) (Nat.beq f k)) (fun k _ _ ihl ihr f => Bool.rec (ihr f) (ihl f) (Nat.ble f k)) t
def Ent.run (e : Ent) : SFn :=
  Ent.rec (motive := fun _ => SFn) (fun _ _ _ _ _ => Option.none) (fun s => s) (fun p _ _ args h u => AMode.rec (motive := fun _ => Res2) (obQ (p args h) fun r => some (.ret r.1 r.2, .no)) Option.none (fun _ => Option.none) u) e
def ST.run (t : ST) : Nat → SFn := fun f => (t.find f).run
def SF (t : ST) (n : Nat) : CallD := nrec (fun _ _ _ _ => none) (fun m ih f args h u => t.run f ih m args h u) n
def ST.getX (t : ST) : Nat → Option XFn :=
  ST.rec (fun _ => Option.none) (fun k x _ f => bif Nat.beq f k then some x else Option.none) (fun _ _ _ => Option.none) (fun k _ _ ihl ihr f => bif Nat.ble f k then ihl f else ihr f) t
def ST.tab (t : ST) : Tab := fun f => (t.getX f).map XFn.fn
def ST.prims (t : ST) : Prims :=
  ST.rec (fun _ => Option.none) (fun _ _ _ _ => Option.none) (fun k p f => bif Nat.beq f k then some p else Option.none) (fun k _ _ ihl ihr f => bif Nat.ble f k then ihl f else ihr f) t
inductive ST.Ok (P : Program) : ST → Prop
  | none : ST.Ok P .none
  | at (k : Nat) (x : XFn) (s : SFn) (fn0 : Func) (h : P.funcs[k]? = some fn0) (ht : trFn P fn0 = some x.fn) (hs : ∀ D m args h u, s D m args h u = evFX x D m args h u) : ST.Ok P (.at k x s)
  | pr (k : Nat) (p : List AV → HP → Option (AV × HP)) (hp : ∀ w0, PrOk P w0 k p) : ST.Ok P (.pr k p)
  | node (k : Nat) (l r : ST) (hl : ST.Ok P l) (hr : ST.Ok P r) : ST.Ok P (.node k l r)

theorem ST.run_ok {P : Program} (hD : DLe D D') : ∀ {t : ST}, ST.Ok P t → ∀ {f : Nat} {args : List AV} {h : HP} {u : AMode} {r : Fin × AMode}, t.run f D m args h u = some r →
    (t.prims f = Option.none ∧ ∃ x, t.getX f = some x ∧ (ob (evC (callOf D') m x.fn.body ⟨argsFr args .h .leaf, h, [], u⟩) fun o => finish D' x.fn o) = some r)
    ∨ ∃ p v, t.prims f = some p ∧ u = .no ∧ p args h = some v ∧ r = (.ret v.1 v.2, .no)
  | .none, _, f, args, h, u, r, he => by have he : (Option.none : Res2) = some r := he; simp at he
  | .at k x s, .at _ _ _ fn0 h1 h2 h3, f, args, h, u, r, he => by
    have he : Ent.run (Bool.rec Ent.none (Ent.s s) (Nat.beq f k)) D m args h u = some r := he
    have key : Nat.beq f k = true ∧ s D m args h u = some r := by
      cases hb : Nat.beq f k with
      | false => rw [hb] at he; have he : (Option.none : Res2) = some r := he; simp at he
      | true => rw [hb] at he; exact ⟨rfl, he⟩
    obtain ⟨hb, he⟩ := key
    rw [h3] at he
    refine .inl ⟨rfl, x, ?_, evFX_ok hD he⟩
    show (bif Nat.beq f k then some x else Option.none) = _
    rw [hb]; rfl
  | .pr k p, .pr _ _ _, f, args, h, u, r, he => by
    have he : Ent.run (Bool.rec Ent.none (Ent.p p) (Nat.beq f k)) D m args h u = some r := he
    show ((bif Nat.beq f k then some p else Option.none) = Option.none ∧ _) ∨ ∃ q v, (bif Nat.beq f k then some p else Option.none) = some q ∧ _
    cases hb : Nat.beq f k with
    | false => rw [hb] at he; have he : (Option.none : Res2) = some r := he; simp at he
    | true =>
      rw [hb] at he
      cases u with
      | no =>
        obtain ⟨v, hv, he⟩ := ob_eq ((obQ_eq _ _).symm.trans (show (obQ (p args h) fun v => some (.ret v.1 v.2, .no)) = some r from he))
        simp only [Option.some.injEq] at he
        exact .inr ⟨p, v, rfl, rfl, hv, he.symm⟩
      | returning => have he : (Option.none : Res2) = some r := he; simp at he
      | panicking c => have he : (Option.none : Res2) = some r := he; simp at he
  | .node k l r, .node _ _ _ hl hr, f, args, h, u, res, he => by
    have he : Ent.run (Bool.rec (r.find f) (l.find f) (Nat.ble f k)) D m args h u = some res := he
    show ((bif Nat.ble f k then l.prims f else r.prims f) = Option.none ∧ ∃ x, (bif Nat.ble f k then l.getX f else r.getX f) = some x ∧ _) ∨ ∃ p v, (bif Nat.ble f k then l.prims f else r.prims f) = some p ∧ _
    cases hb : Nat.ble f k with
    | true => rw [hb] at he; exact ST.run_ok hD hl he
    | false => rw [hb] at he; exact ST.run_ok hD hr he

theorem ST.tab_ok {P : Program} : ∀ {t : ST}, ST.Ok P t → TabOk P t.tab
  | .none, _, f, fn', h => by have h : (Option.none : Option AFn) = some fn' := h; simp at h
  | .at k x s, .at _ _ _ fn0 h1 h2 _, f, fn', h0 => by
    have h : (bif Nat.beq f k then some x else Option.none).map XFn.fn = some fn' := h0
    cases hb : Nat.beq f k with
    | false => rw [hb] at h; simp at h
    | true =>
      rw [hb] at h
      have hk := Nat.eq_of_beq_eq_true hb
      simp only [cond_true, Option.map_some, Option.some.injEq] at h
      subst hk h
      exact ⟨fn0, h1, h2⟩
  | .pr k p, .pr _ _ _, f, fn', h => by have h : (Option.none : Option AFn) = some fn' := h; simp at h
  | .node k l r, .node _ _ _ hl hr, f, fn', h0 => by
    have h : (bif Nat.ble f k then l.getX f else r.getX f).map XFn.fn = some fn' := h0
    cases hb : Nat.ble f k with
    | true => rw [hb] at h; exact ST.tab_ok hl f fn' h
    | false => rw [hb] at h; exact ST.tab_ok hr f fn' h

theorem ST.xok {P : Program} (w0 : World) : ∀ {t : ST}, ST.Ok P t → XOk P w0 t.prims
  | .none, _, f, p, h => by have h : (Option.none : Option (List AV → HP → Option (AV × HP))) = some p := h; simp at h
  | .at _ _ _, .at _ _ _ _ _ _ _, f, p, h => by have h : (Option.none : Option (List AV → HP → Option (AV × HP))) = some p := h; simp at h
  | .pr k q, .pr _ _ hq, f, p, h => by
    have h0 : (bif Nat.beq f k then some q else Option.none) = some p := h
    obtain ⟨hk0, h1⟩ := bif_eq h0
    have hk := Nat.eq_of_beq_eq_true hk0
    have h2 : q = p := Option.some.inj h1
    rw [← h2, hk]; exact hq w0
  | .node k l r, .node _ _ _ hl hr, f, p, h => by
    have h : (bif Nat.ble f k then l.prims f else r.prims f) = some p := h
    cases hb : Nat.ble f k with
    | true => rw [hb] at h; exact ST.xok w0 hl f p h
    | false => rw [hb] at h; exact ST.xok w0 hr f p h

theorem SF_ok {P : Program} {t : ST} (ht : ST.Ok P t) : ∀ n, DLe (SF t n) (evF t.prims t.tab n)
  | 0 => fun f as h u r he => by have he : (Option.none : Res2) = some r := he; simp at he
  | n + 1 => fun f as h u r he => by
    rcases ST.run_ok (SF_ok ht n) ht (show t.run f (SF t n) n as h u = some r from he) with ⟨hp, x, hx, he⟩ | ⟨p, v, hp, rfl, hv, rfl⟩
    case inr =>
      rw [evF_succ, hp]
      show (ob (p as h) fun r => (some (.ret r.1 r.2, .no) : Res2)) = _
      rw [hv]; rfl
    rw [evF_succ, hp]
    show (ob (t.tab f) fun fn => ob (evC (callOf (evF t.prims t.tab n)) n fn.body ⟨argsFr as .h .leaf, h, [], u⟩) fun o => finish (evF t.prims t.tab n) fn o) = some r
    have : t.tab f = some x.fn := by show (t.getX f).map XFn.fn = _; rw [hx]; rfl
    rw [this, ob_some]; exact he
end
end
end Go.Proofs.YtmoabbfdehaenaaGreatDoor.Ev

namespace Go.Proofs.YtmoabbfdehaenaaGreatDoor.Ev
open Go
noncomputable section
abbrev Rho.plain (r : Nat → Nat) (lt : ∀ i, r i ≤ 4294967295) (h0 : ngl = 0) (ad : tadd = true → ∀ a b, Nat.mod a 128 = Nat.div b 128 → (r a + r b) % 4294967296 = r (Nat.add (Nat.mul (Nat.div a 128) 128) (Nat.mod b 128)) := by intro h; exact Bool.noConfusion h) : Rho where
  r := r
  lt := lt
  g0 := ⟨.h, .leaf⟩
  gphi := fun _ => none
  gdom := fun b l h => by simp at h
  gwf := fun b _ => by cases b <;> rfl
  gro := fun b k h => by cases b <;> exact absurd (show (none : Option Blk) = some k from h) (by simp)
  ggl := fun g h => absurd (h0 ▸ h) (Nat.not_lt_zero g)
  ad := ad
theorem GB.plain {r : Nat → Nat} {lt : ∀ i, r i ≤ 4294967295} {h0 : ngl = 0} {ad : tadd = true → ∀ a b, Nat.mod a 128 = Nat.div b 128 → (r a + r b) % 4294967296 = r (Nat.add (Nat.mul (Nat.div a 128) 128) (Nat.mod b 128))} (w : World) : letI := Rho.plain r lt h0 ad; GB w := by
  letI := Rho.plain r lt h0 ad
  exact ⟨fun b l h => by exact absurd (show (none : Option Loc) = some l from h) (by simp), fun b l k h => absurd (show (none : Option Loc) = some l from h) (by simp)⟩
variable [Rho]
open Go.ChangeShapes Go.WideShapes in
theorem post_of_old {H : Type} {enc : TypeId × Value → H} {P : Program} {f : Func} {s : ChangeSpec} {apart fresh handsOn again : Bool} {W W' : World} {args : Array Value} {v : Value} {ds gs : List (DataW H)} {before pa pv : List MemPlace}
    (hW : DataW.Whole enc P f.params.toList s.vars apart W args.toList ds gs before)
    (hr : ∀ (b : Nat) (sp : Nat → Bool) (hd : Bool), DataW.TrodAll enc P W' b sp hd f.resultTypes.toList (v.resultList f.resultTypes.size) (s.fn H (ds ++ gs)).results [])
    (ha : ∀ sp : Nat → Bool, (∀ p ∈ before, sp p.block = true) → DataW.TrodAll enc P W' 0 sp true f.params.toList args.toList (s.fn H (ds ++ gs)).args pa)
    (hv : ∀ sp : Nat → Bool, (∀ p ∈ before, sp p.block = true) → DataW.TrodVars enc P W' sp s.vars (s.fn H (ds ++ gs)).vars pv)
    (hb : before = pa ++ pv) (hg : GrownO W W')
    (hok : ∀ (j : Nat) (t : TypeId) (r : Value), f.resultTypes[j]? = some t → (v.resultList f.resultTypes.size)[j]? = some r → Value.okWide P W' .any 0 t r) :
    s.post enc P f apart fresh handsOn again W args v W' := by
  have lt : ∀ p ∈ before, p.block < W.heap.size := hW.lt
  have old : ∀ p ∈ before, (fun b => decide (b < W.heap.size)) p.block = true := fun p hp => decide_eq_true (lt p hp)
  have all : ∀ p ∈ before, (fun _ : Nat => true) p.block = true := fun _ _ => rfl
  refine ⟨ds, gs, before, [], pa, pv, hW, hr _ _ _, ha _ old, hv _ old, World.keptBut_mono (fun p hp => ⟨hp, .inr (List.mem_append.1 (by rw [← hb]; exact hp))⟩) (hg.frame (· ∈ before)), fun _ => ?_⟩
  obtain ⟨_, _, _, _, _, hz, hn⟩ := hW
  refine ⟨hok, _, _, ([] ++ pa) ++ pv, ⟨[] ++ pa, pv, trodAll_append (ha _ all) (hr _ _ _), hv _ all, rfl, fun b off hp => ?_, fun h => ?_⟩, fun p hp _ => ?_⟩
  · rw [List.nil_append, ← hb] at hp
    rw [hg.2.1 _ (lt _ hp)]
    exact hz b off hp
  · have := hn h; rw [hb] at this; simpa using this
  · rw [hb]; simpa using hp
theorem walk_S {P : Program} {t : ST} (hP : P.follows .mixedOrders = true) (ht : ST.Ok P t) {n f : Nat} {as : List AV} (he : isTrue (SF t n f as Rho.g0 .no) = true) {vs : List Value} (hv : RVs Rho.gphi vs as) {w : World} (hg : GB w) :
    Calls P f vs.toArray w fun e w' => e = .returned (.bool true) ∧ GrownO w w' := by
  unfold isTrue at he
  split at he
  · rename_i h u hh
    exact walk_of hP (X := t.prims) (fun w0 => ST.xok w0 ht) (ST.tab_ok ht) (SF_ok ht n _ _ _ _ _ hh) hv hg
  · simp at he
theorem pr_of {P : Program} {t : ST} (hP : P.follows .mixedOrders = true) (ht : ST.Ok P t) {n k : Nat} {p : List AV → HP → Option (AV × HP)} (hc : Callable P k) (hp : ∀ as h r, p as h = some r → SF t n k as h .no = some (.ret r.1 r.2, .no)) (w0 : World) : PrOk P w0 k p :=
  ⟨hc, fun as v φ h w vs hv r hvs => calls_ok hP (ST.xok w0 ht) (ST.tab_ok ht) (SF_ok ht n _ _ _ _ _ (hp as h v hv)) r hvs⟩
def noH (p : List AV → Option AV) (xs : List AV) (h : HP) : Option (AV × HP) := Option.rec none (fun v => some (v, h)) (p xs)
theorem noH_of {t : ST} {n k : Nat} {p : List AV → Option AV} (hp : ∀ xs v h, p xs = some v → SF t n k xs h .no = some (.ret v h, .no)) (xs : List AV) (h : HP) (r : AV × HP) (hr : noH p xs h = some r) : SF t n k xs h .no = some (.ret r.1 r.2, .no) := by
  unfold noH at hr
  cases hq : p xs with
  | none => rw [hq] at hr; have hr : (none : Option (AV × HP)) = some r := hr; simp at hr
  | some v =>
    rw [hq] at hr
    have hr : some (v, h) = some r := hr
    obtain rfl := Option.some.inj hr
    exact hp xs v h hq
theorem RVs.le32 {φ : Phi} {vs : List Value} {as : List AV} (h : RVs φ vs as) (n : Nat) (hm : AV.int .u32 (.ofNat n) ∈ as) : n ≤ 4294967295 := by
  obtain ⟨i, hi⟩ := List.getElem?_of_mem hm
  obtain ⟨v, _, hv⟩ := h.get hi
  have h2 := ((hv.int_inv rfl).2.1 rfl).2
  have h3 : (n : Int) ≤ 4294967295 := h2
  omega
def resT (a : AV) : AV := match a with | .int .u32 (.negSucc i) => .int .u32 (.ofNat (Rho.r i)) | .int .u64 (.negSucc i) => bif t64 then .int .u64 (.ofNat (Rho.q i)) else .int .u64 (.negSucc i) | a => a
theorem RV.resT {φ : Phi} {v : Value} {a : AV} (h : RV φ v a) : RV φ v (resT a) := by
  unfold Ev.resT
  split
  · obtain ⟨i, hi, rfl⟩ := h.tok_inv rfl
    simp only [Int.negSucc.injEq] at hi
    subst hi
    exact RV.int (φ := φ) .u32 (Int.ofNat (Rho.r _)) (InR.nat (Rho.lt _))
  · rename_i i
    cases ht : t64 with
    | false => exact h
    | true =>
      obtain ⟨i, hi, rfl⟩ := h.tok_inv (show t64 = true from ht)
      simp only [Int.negSucc.injEq] at hi
      subst hi
      exact RV.int (φ := φ) .u64 (Int.ofNat (Rho.q _)) (InR.nn (by decide))
  · exact h
theorem RVs.resT {φ : Phi} {vs : List Value} {as : List AV} (h : RVs φ vs as) : RVs φ vs (as.map resT) := by
  induction vs generalizing as with
  | nil => cases h; exact .nil
  | cons v vs ih => cases h with | cons _ a _ as h hs => exact .cons _ _ _ _ h.resT (ih hs)
theorem RV.toT {φ : Phi} {v : Value} {i n : Nat} (h : RV φ v (.int .u32 (.ofNat n))) (hn : n = Rho.r i) : RV φ v (.int .u32 (.negSucc i)) := by
  subst hn
  rw [(h.int_inv rfl).1]
  exact .tok i
theorem RV.toT64 {φ : Phi} {v : Value} {i n : Nat} (ht : t64 = true) (h : RV φ v (.int .u64 (.ofNat n))) (hn : n = Rho.q i) : RV φ v (.int .u64 (.negSucc i)) := by
  subst hn
  rw [(h.int_inv rfl).1]
  exact .tok64 i ht
theorem pr_tok {P : Program} {t : ST} (hP : P.follows .mixedOrders = true) (ht : ST.Ok P t) {n k : Nat} {p : List AV → Option AV} (hc : Callable P k)
    (hp : ∀ as v h, (∀ n : Nat, AV.int .u32 (.ofNat n) ∈ as.map resT → n ≤ 4294967295) → p as = some v → ∃ v', SF t n k (as.map resT) h .no = some (.ret v' h, .no) ∧ ∀ φ x, RV φ x v' → RV φ x v) (w0 : World) : PrOk P w0 k (noH p) := by
  refine ⟨hc, fun as r φ h w vs hq rel hvs => ?_⟩
  unfold noH at hq
  cases hv : p as with
  | none => rw [hv] at hq; have hq : (none : Option (AV × HP)) = some r := hq; simp at hq
  | some v =>
    rw [hv] at hq
    have hq : some (v, h) = some r := hq
    obtain rfl := Option.some.inj hq
    obtain ⟨v', hs, hle⟩ := hp as v h hvs.resT.le32 hv
    refine Calls.mono (calls_ok hP (ST.xok w0 ht) (ST.tab_ok ht) (SF_ok ht n _ _ _ _ _ hs) rel hvs.resT) fun e w' hR => ?_
    cases e with
    | returned x =>
      obtain ⟨φ', a, h', hf, hr, r, ext⟩ := hR
      simp only [Fin.ret.injEq] at hf
      obtain ⟨rfl, rfl⟩ := hf
      exact ⟨φ', v, h, rfl, hle _ _ hr, r, ext⟩
    | panicked ch => obtain ⟨_, _, _, hf, _⟩ := hR; simp at hf
    | outgrown => exact hR.elim
theorem pr_res {P : Program} {t : ST} (hP : P.follows .mixedOrders = true) (ht : ST.Ok P t) {n k : Nat} {p : List AV → HP → Option (AV × HP)} (hc : Callable P k)
    (hp : ∀ as h r, p as h = some r → SF t n k (as.map resT) h .no = some (.ret r.1 r.2, .no)) (w0 : World) : PrOk P w0 k p :=
  ⟨hc, fun as v φ h w vs hv r hvs => calls_ok hP (ST.xok w0 ht) (ST.tab_ok ht) (SF_ok ht n _ _ _ _ _ (hp as h v hv)) r hvs.resT⟩
theorem walk_H {P : Program} {t : ST} (hP : P.follows .mixedOrders = true) (ht : ST.Ok P t) {n f : Nat} {as : List AV} {h0 : HP} {φ : Phi} (he : isTrue (SF t n f as h0 .no) = true) {vs : List Value} {w : World} (r0 : Rel w φ h0 w) (hv : RVs φ vs as) :
    Calls P f vs.toArray w fun e w' => e = .returned (.bool true) ∧ GrownO w w' := by
  unfold isTrue at he
  split at he
  · rename_i h u hh
    refine Calls.mono (calls_ok hP (ST.xok w ht) (ST.tab_ok ht) (SF_ok ht n _ _ _ _ _ hh) r0 hv) fun e w' hR => ?_
    cases e with
    | returned v =>
      obtain ⟨φ', a, h', hf, hr, r, _⟩ := hR
      simp only [Fin.ret.injEq] at hf
      obtain ⟨rfl, rfl⟩ := hf
      cases hr
      exact ⟨rfl, grown_of r⟩
    | panicked ch => obtain ⟨_, _, _, hf, _⟩ := hR; simp at hf
    | outgrown => exact hR.elim
  · simp at he
def retB (r : Res2) : Bool := match r with | some (.ret (.bool b) _, _) => b | _ => false
theorem isTrue_retB {r : Res2} (h : retB r = true) : isTrue r = true := by
  unfold retB at h
  split at h
  · subst h; rfl
  · simp at h
theorem eqQ_self (a : Int) : eqQ a a = true := by rw [eqQ_eq, eqF_eq]; simp
inductive XJ | o (o : AOper) (ty : Ty) | sp (g : Pos) | jn (g : Pos) (live : List Pos) | ge (g : Pos) (b : XL) (d : Pos) (ty : Ty)
def XL.pre (l : List XJ) (r : XL) : XL := lrec r (fun x _ ih => XJ.casesOn x (fun o ty => .op o ty ih) (fun g => .split g ih) (fun g v => .join g v ih) (fun g b d ty => .ge g b d ty ih)) l
def XL.of (l : List XJ) : XL := XL.pre l .nil
def XJ.P (d : Pos) (q : PO) (ty : Ty) : XJ := .o ⟨some d, .p q, none, []⟩ ty
def XJ.G (g : Pos) (w : Bool) (d : Pos) (q : PO) (ty : Ty) : XJ := .o ⟨some d, .p q, some (g, w), []⟩ ty
def XJ.L (d : Pos) (q : LO) (ty : Ty) : XJ := .o ⟨some d, .l q, none, []⟩ ty
def popI (k : IntKind) (args : List AV) (f : Int → List AV → Res2) : Res2 := List.rec (motive := fun _ => Res2) none (fun a t _ => asI k a fun n => f n t) args
def popB (args : List AV) (f : Bool → List AV → Res2) : Res2 := List.rec (motive := fun _ => Res2) none (fun a t _ => asB a fun n => f n t) args
def popS (args : List AV) (f : List Nat → List AV → Res2) : Res2 := List.rec (motive := fun _ => Res2) none (fun a t _ => asS a fun n => f n t) args
def popV (args : List AV) (f : AV → List AV → Res2) : Res2 := List.rec (motive := fun _ => Res2) none (fun a t _ => f a t) args
def nou (u : AMode) (r : Res2) : Res2 := AMode.rec (motive := fun _ => Res2) r none (fun _ => none) u
def endA (args : List AV) (r : Res2) : Res2 := List.rec (motive := fun _ => Res2) r (fun _ _ _ => none) args
def obI (k : IntKind) (x : Option AV) (f : Int → Res2) : Res2 := obQ x fun v => asI k v f
def obB (x : Option AV) (f : Bool → Res2) : Res2 := obQ x fun v => asB v f
def obS (x : Option AV) (f : List Nat → Res2) : Res2 := obQ x fun v => asS v f
def obIV (k : IntKind) (x : Option AV) (f : Int → Option AV) : Option AV := obQV x fun v => asIV k v f
def obBV (x : Option AV) (f : Bool → Option AV) : Option AV := obQV x fun v => asBV v f
def obSV (x : Option AV) (f : List Nat → Option AV) : Option AV := obQV x fun v => asSV v f
def panN (c : Chain) (h : HP) : Res2 := some (.pan c h, .no)
def cal (D : CallD) (f : Nat) (args : List AV) (h : HP) (kr : AV → HP → Res2) : Res2 := calC D f args h kr fun c h => some (.pan c h, .no)
def eff (q : EO) (h : HP) (f : AV → HP → Res2) : Res2 := obQ (evE q .leaf h) fun r => f r.1 r.2
def panV (x : AV) (k : Chain → Res2) : Res2 := match x with | .iface t v => k [(.iface t v, false)] | _ => none
def recC (u : AMode) (k : AV → AMode → Res2) : Res2 :=
  match u with
  | .panicking ((v, false) :: older) => k v (.panicking ((v, true) :: older))
  | .panicking _ => k .nili u
  | .returning => k .nili u
  | .no => none
def wr (k : IntKind) (n : Int) : Int := wrapF k n
def shlF (k : IntKind) (x : Int) (n : Nat) : Int := k.wrap (x * 2 ^ (min n k.bits))
def shrF (k : IntKind) (x : Int) (n : Nat) : Int := x.fdiv (2 ^ (min n k.bits))
def mmI (max : Bool) (a b : Int) : Int := if max then (if ltF a b then b else a) else (if ltF b a then b else a)
theorem nrec_emb {C : Type} (emb : (St → Res2) → C) (Z : C) (B : C → C) (T : (St → Res2) → St → Res2) (h0 : Z = emb (fun _ => none)) (hs : ∀ g, B (emb g) = emb (T g)) : ∀ n, nrec Z (fun _ g => B g) n = emb (nrec (fun _ => none) (fun _ g => T g) n)
  | 0 => h0
  | n + 1 => by
    show B (nrec Z (fun _ g => B g) n) = emb (T (nrec (fun _ => none) (fun _ g => T g) n))
    rw [nrec_emb emb Z B T h0 hs n, hs]
def ci (n : Nat) : Opd := .c (.int .i64 (.ofNat n))
def cb (b : Bool) : Opd := .c (.bool b)
def vI (n : Int) : AV := .int .i64 n
def vC (n : Int) : AV := .int .u8 n
def vW (n : Int) : AV := .int .u32 n
def vB (b : Bool) : AV := .bool b
def vS (s : List Nat) : AV := .str s
abbrev LN := List Nat
def tI : Ty := .i .i64
def tC : Ty := .i .u8
def tW : Ty := .i .u32
def XJ.mv (d : Pos) (x : Opd) (ty : Ty) : XJ := .P d (.mov x) ty
def XJ.bn (d : Pos) (op : BinOp) (x y : Opd) (ty : Ty) : XJ := .P d (.bin op x y) ty
def XJ.fa (d : Pos) (n : Nat) (x : Opd) : XJ := .P d (.faddr n x) .v
def XJ.ld (d : Pos) (x : Opd) (ty : Ty) : XJ := .L d (.cell x) ty
def XJ.st (a x : Opd) : XJ := .o ⟨none, .e (.store a x), none, []⟩ .v
def XJ.ss (n : Nat) (a x : Opd) : XJ := .o ⟨none, .e (.stores n a x), none, []⟩ .v
def XJ.cl (d : Pos) (f : Nat) (l : List Opd) (ty : Ty) : XJ := .o ⟨some d, .call (.fn f) l, none, []⟩ ty
def XJ.al (d : Pos) (q : AO) : XJ := .o ⟨some d, .a q, none, []⟩ .v
def kI (n : Nat) : AV := .int .i64 (.ofNat n)
def XS.oX (l : List XJ) : XS := .ops false (XL.of l)
def XC.sO (l : List XJ) (c : XC) : XC := .seq (.ops false (XL.of l)) c
def ldI (a : AV) (h : HP) (f : Int → Res2) : Res2 := cellC a h fun v => asI .i64 v f
def ldC (a : AV) (h : HP) (f : Int → Res2) : Res2 := cellC a h fun v => asI .u8 v f
def ldW (a : AV) (h : HP) (f : Int → Res2) : Res2 := cellC a h fun v => asI .u32 v f
def ldB (a : AV) (h : HP) (f : Bool → Res2) : Res2 := cellC a h fun v => asB v f
def ldS (a : AV) (h : HP) (f : List Nat → Res2) : Res2 := cellC a h fun v => asS v f
def ldIV (a : AV) (h : HP) (f : Int → Option AV) : Option AV := cellCV a h fun v => asIV .i64 v f
def ldCV (a : AV) (h : HP) (f : Int → Option AV) : Option AV := cellCV a h fun v => asIV .u8 v f
def ldWV (a : AV) (h : HP) (f : Int → Option AV) : Option AV := cellCV a h fun v => asIV .u32 v f
def ldBV (a : AV) (h : HP) (f : Bool → Option AV) : Option AV := cellCV a h fun v => asBV v f
def ldSV (a : AV) (h : HP) (f : List Nat → Option AV) : Option AV := cellCV a h fun v => asSV v f
def kN (k : St → Res2) (l : List (Pos × AV)) (h : HP) : Res2 := k ⟨mkT l, h, [], .no⟩
abbrev FX (x : XFn) (D : CallD) (m : Nat) (E : XE) : Prop := Fix D m (x.finK D) E
abbrev XTie (s : SFn) (x : XFn) : Prop := ∀ D m args h u, s D m args h u = evFX x D m args h u
theorem X_of {s : SFn} {x : XFn} (hx : ∀ D m E, FX x D m E → ∀ args h u, s D m args h u = evFXE x E args h u) : XTie s x := fun D m args h u => hx D m _ (fix_ok D m (x.finK D)) args h u
end
end Go.Proofs.YtmoabbfdehaenaaGreatDoor.Ev

namespace Go.Proofs.YtmoabbfdehaenaaGreatDoor.Ev
open Go
noncomputable section
mutual
def plain : AV → Bool
  | .bool _ => true
  | .int .. => true
  | .flt .. => true
  | .nan _ => true
  | .str _ => true
  | .nilp => true
  | .nils => true
  | .nilm => true
  | .nilf => true
  | .nili => true
  | .iface _ v => plain v
  | .agg vs => plains vs
  | .tup vs => plains vs
  | .ptr .. => false
  | .slice .. => false
  | .map _ => false
  | .fn .. => false
termination_by structural v => v
def plains : List AV → Bool
  | [] => true
  | v :: l => plain v && plains l
termination_by structural l => l
end
mutual
def ren (σ : Pos → Option Pos) : AV → Option AV
  | .ptr b o => match σ b with | some c => some (.ptr c o) | none => none
  | .slice b o n k => match σ b with | some c => some (.slice c o n k) | none => none
  | .map b => match σ b with | some c => some (.map c) | none => none
  | .fn f a c => match rens σ a, rens σ c with | some a, some c => some (.fn f a c) | _, _ => none
  | .iface t v => match ren σ v with | some v => some (.iface t v) | none => none
  | .agg vs => match rens σ vs with | some vs => some (.agg vs) | none => none
  | .tup vs => match rens σ vs with | some vs => some (.tup vs) | none => none
  | .bool b => some (.bool b)
  | .int k n => some (.int k n)
  | .flt k n => some (.flt k n)
  | .nan k => some (.nan k)
  | .str s => some (.str s)
  | .nilp => some .nilp
  | .nils => some .nils
  | .nilm => some .nilm
  | .nilf => some .nilf
  | .nili => some .nili
termination_by structural v => v
def rens (σ : Pos → Option Pos) : List AV → Option (List AV)
  | [] => some []
  | v :: l => match ren σ v, rens σ l with | some v, some l => some (v :: l) | _, _ => none
termination_by structural l => l
end
def renP (σ : Pos → Option Pos) : List (AV × AV) → Option (List (AV × AV))
  | [] => some []
  | e :: l => match ren σ e.1, ren σ e.2, renP σ l with | some k, some v, some l => some ((k, v) :: l) | _, _, _ => none
def renB (σ : Pos → Option Pos) : Blk → Option Blk
  | .cells true vs => match rens σ vs with | some vs => some (.cells true vs) | none => none
  | .map es n => match renP σ es with | some es => some (.map es n) | none => none
  | _ => none
def renBs (σ : Pos → Option Pos) : List Blk → Option (List Blk)
  | [] => some []
  | k :: l => match renB σ k, renBs σ l with | some k, some l => some (k :: l) | _, _ => none
section
variable [Rho]
mutual
theorem RV.plain {φ ψ : Phi} : ∀ {v : Value} {a : AV}, RV φ v a → plain a = true → RV ψ v a
  | _, _, .bool b, _ => .bool b
  | _, _, .int k n h, _ => .int k n h
  | _, _, .tok i, _ => .tok i
  | _, _, .tok64 i h, _ => .tok64 i h
  | _, _, .flt k n, _ => .flt k n
  | _, _, .nan k n h, _ => .nan k n h
  | _, _, .str s l h, _ => .str s l h
  | _, _, .ptr b o l h, hp => Bool.noConfusion (show false = true from hp)
  | _, _, .nilp, _ => .nilp
  | _, _, .slice b o len cap c l h hl he hs, hp => Bool.noConfusion (show false = true from hp)
  | _, _, .slice0 a b o cap, hp => Bool.noConfusion (show false = true from hp)
  | _, _, .nils, _ => .nils
  | _, _, .map b l h, hp => Bool.noConfusion (show false = true from hp)
  | _, _, .nilm, _ => .nilm
  | _, _, .fn f a c a' c' ha hc, hp => Bool.noConfusion (show false = true from hp)
  | _, _, .nilf, _ => .nilf
  | _, _, .iface t v v' h, hp => .iface t v v' (RV.plain h hp)
  | _, _, .nili, _ => .nili
  | _, _, .agg cs cs' h, hp => .agg cs cs' (RVs.plain h hp)
  | _, _, .tup vs vs' h, hp => .tup vs vs' (RVs.plain h hp)
theorem RVs.plain {φ ψ : Phi} : ∀ {vs : List Value} {as : List AV}, RVs φ vs as → plains as = true → RVs ψ vs as
  | _, _, .nil, _ => .nil
  | _, _, .cons v a vs as h hs, hp =>
    have hp : (Ev.plain a && Ev.plains as) = true := hp
    .cons v a vs as (RV.plain h (Bool.and_eq_true _ _ ▸ hp).1) (RVs.plain hs (Bool.and_eq_true _ _ ▸ hp).2)
end
mutual
theorem RV.ren {φ ψ : Phi} {σ : Pos → Option Pos} (hσ : ∀ b c l, σ b = some c → φ b = some l → ψ c = some l) : ∀ {v : Value} {a a' : AV}, RV φ v a → ren σ a = some a' → RV ψ v a'
  | _, _, _, .bool b, e => Option.some.inj e ▸ .bool b
  | _, _, _, .int k n h, e => Option.some.inj e ▸ .int k n h
  | _, _, _, .tok i, e => Option.some.inj e ▸ .tok i
  | _, _, _, .tok64 i h, e => Option.some.inj e ▸ .tok64 i h
  | _, _, _, .flt k n, e => Option.some.inj e ▸ .flt k n
  | _, _, _, .nan k n h, e => Option.some.inj e ▸ .nan k n h
  | _, _, _, .str s l h, e => Option.some.inj e ▸ .str s l h
  | _, _, _, .nilp, e => Option.some.inj e ▸ .nilp
  | _, _, _, .nils, e => Option.some.inj e ▸ .nils
  | _, _, _, .nilm, e => Option.some.inj e ▸ .nilm
  | _, _, _, .nilf, e => Option.some.inj e ▸ .nilf
  | _, _, _, .nili, e => Option.some.inj e ▸ .nili
  | _, _, _, .ptr b o l h, e => by
    simp only [Ev.ren] at e
    split at e
    · rename_i c hc; exact Option.some.inj e ▸ .ptr c o l (hσ _ _ _ hc h)
    · simp at e
  | _, _, _, .slice b o len cap c l h hl he hs, e => by
    simp only [Ev.ren] at e
    split at e
    · rename_i d hc; exact Option.some.inj e ▸ .slice d o len cap c l (hσ _ _ _ hc h) hl he hs
    · simp at e
  | _, _, _, .slice0 a b o cap, e => by
    simp only [Ev.ren] at e
    split at e
    · rename_i d hc; exact Option.some.inj e ▸ .slice0 a d o cap
    · simp at e
  | _, _, _, .map b l h, e => by
    simp only [Ev.ren] at e
    split at e
    · rename_i c hc; exact Option.some.inj e ▸ .map c l (hσ _ _ _ hc h)
    · simp at e
  | _, _, _, .fn f a c a' c' ha hc, e => by
    simp only [Ev.ren] at e
    split at e
    · rename_i x y hx hy; exact Option.some.inj e ▸ .fn f a c x y (RVs.ren hσ ha hx) (RVs.ren hσ hc hy)
    · simp at e
  | _, _, _, .iface t v v' h, e => by
    simp only [Ev.ren] at e
    split at e
    · rename_i x hx; exact Option.some.inj e ▸ .iface t v x (RV.ren hσ h hx)
    · simp at e
  | _, _, _, .agg cs cs' h, e => by
    simp only [Ev.ren] at e
    split at e
    · rename_i x hx; exact Option.some.inj e ▸ .agg cs x (RVs.ren hσ h hx)
    · simp at e
  | _, _, _, .tup cs cs' h, e => by
    simp only [Ev.ren] at e
    split at e
    · rename_i x hx; exact Option.some.inj e ▸ .tup cs x (RVs.ren hσ h hx)
    · simp at e
theorem RVs.ren {φ ψ : Phi} {σ : Pos → Option Pos} (hσ : ∀ b c l, σ b = some c → φ b = some l → ψ c = some l) : ∀ {vs : List Value} {as as' : List AV}, RVs φ vs as → rens σ as = some as' → RVs ψ vs as'
  | _, _, _, .nil, e => Option.some.inj e ▸ .nil
  | _, _, _, .cons v a vs as h hs, e => by
    simp only [Ev.rens] at e
    split at e
    · rename_i x y hx hy; exact Option.some.inj e ▸ .cons v x vs y (RV.ren hσ h hx) (RVs.ren hσ hs hy)
    · simp at e
end
theorem RVP.ren {φ ψ : Phi} {σ : Pos → Option Pos} (hσ : ∀ b c l, σ b = some c → φ b = some l → ψ c = some l) {es : List MapEntry} {as as' : List (AV × AV)} (h : RVP φ es as) (e : renP σ as = some as') : RVP ψ es as' := by
  induction h generalizing as' with
  | nil => exact Option.some.inj e ▸ .nil
  | cons e1 k v es as hk hv _ ih =>
    simp only [renP] at e
    split at e
    · rename_i x y z hx hy hz; exact Option.some.inj e ▸ .cons e1 x y es z (hk.ren hσ hx) (hv.ren hσ hy) (ih hz)
    · simp at e
theorem rens_length {σ : Pos → Option Pos} : ∀ {as as' : List AV}, rens σ as = some as' → as'.length = as.length
  | [], _, e => by simp only [rens] at e; obtain rfl := Option.some.inj e; rfl
  | a :: as, _, e => by
    simp only [rens] at e
    split at e
    · rename_i x y hx hy; obtain rfl := Option.some.inj e; simp [rens_length hy]
    · simp at e
theorem renB_wr {σ : Pos → Option Pos} {k k' : Blk} (h : renB σ k = some k') : k.wr = true ∧ k'.wr = true := by
  cases k with
  | cells wr vs =>
    cases wr with
    | false => simp [renB] at h
    | true =>
      simp only [renB] at h
      split at h
      · obtain rfl := Option.some.inj h; exact ⟨rfl, rfl⟩
      · simp at h
  | map es n =>
    simp only [renB] at h
    split at h
    · obtain rfl := Option.some.inj h; exact ⟨rfl, rfl⟩
    · simp at h
  | _ => simp [renB] at h
theorem BlkOk.ren {w0 w w' : World} {φ ψ : Phi} {σ : Pos → Option Pos} (hσ : ∀ b c l, σ b = some c → φ b = some l → ψ c = some l) (hw : w0.heap.size ≤ w.heap.size) {l : Loc} {k k' : Blk} (h : BlkOk w φ w' l k) (e : renB σ k = some k') : BlkOk w0 ψ w' l k' := by
  cases k with
  | cells wr vs =>
    cases wr with
    | false => simp [renB] at e
    | true =>
      simp only [renB] at e
      split at e
      · rename_i x hx
        obtain rfl := Option.some.inj e
        obtain ⟨h1, h2, c, el, h3, h4, h5⟩ := h
        have hl := rens_length hx
        exact ⟨by omega, by omega, c, el, h3, h4, by rw [hl]; exact h5.ren hσ hx⟩
      · simp at e
  | map es n =>
    simp only [renB] at e
    split at e
    · rename_i x hx
      obtain rfl := Option.some.inj e
      obtain ⟨h1, en, h2, h3, h4⟩ := h
      exact ⟨by omega, en, h2, h3.ren hσ hx, h4⟩
    · simp at e
  | _ => simp [renB] at e
theorem BlkOk.new {w0 w w' : World} {φ : Phi} {l : Loc} {k : Blk} (h : BlkOk w φ w' l k) {σ : Pos → Option Pos} {k' : Blk} (e : renB σ k = some k') : w.heap.size ≤ l.blk := by
  cases k with
  | cells wr vs =>
    cases wr with
    | false => simp [renB] at e
    | true => exact h.1
  | map es n => exact h.1
  | _ => simp [renB] at e
end
def kIx : List Pos → Pos → Pos → Option Pos
  | [], _, _ => none
  | k :: t, cur, b => match beqPos b k with | true => some cur | false => kIx t cur.succ b
def keepBs (σ : Pos → Option Pos) (h : HP) : List Pos → Option (List Blk)
  | [] => some []
  | k :: t => match h.get k with
    | some x => match renB σ x, keepBs σ h t with | some x, some t => some (x :: t) | _, _ => none
    | none => none
def notIn (k : Pos) : List Pos → Bool
  | [] => true
  | c :: t => !(beqPos k c) && notIn k t
def distinct : List Pos → Bool
  | [] => true
  | k :: t => notIn k t && distinct t
def gc (ks : List Pos) (r : Res2) : Option (AV × List Blk) :=
  match r with
  | some (.ret v h, .no) => match ren (kIx ks .h) v, keepBs (kIx ks .h) h ks with | some v, some bs => some (v, bs) | _, _ => none
  | _ => none
section
variable [Rho]
theorem beqPos_self : ∀ (b : Pos), beqPos b b = true
  | .h => rfl
  | .o p => beqPos_self p
  | .i p => beqPos_self p
theorem kIx_some : ∀ {ks : List Pos} {cur b c : Pos}, kIx ks cur b = some c → ∃ i, ks[i]? = some b ∧ c.toNat = cur.toNat + i
  | [], _, _, _, h => by simp [kIx] at h
  | k :: t, cur, b, c, h => by
    simp only [kIx] at h
    split at h
    · rename_i hb
      obtain rfl := Option.some.inj h
      obtain rfl : b = k := by have := beqPos_eq b k; rw [hb] at this; simpa using this.symm
      exact ⟨0, by simp, by omega⟩
    · obtain ⟨i, h1, h2⟩ := kIx_some h
      rw [Pos.toNat_succ] at h2
      exact ⟨i + 1, by simpa using h1, by omega⟩
theorem keepBs_some {σ : Pos → Option Pos} {h : HP} : ∀ {ks : List Pos} {bs : List Blk}, keepBs σ h ks = some bs → bs.length = ks.length ∧ ∀ (i : Nat) (b : Pos), ks[i]? = some b → ∃ k k', h.get b = some k ∧ bs[i]? = some k' ∧ renB σ k = some k'
  | [], bs, e => by simp only [keepBs] at e; obtain rfl := Option.some.inj e; exact ⟨rfl, fun i b h => by simp at h⟩
  | k :: t, bs, e => by
    simp only [keepBs] at e
    split at e
    · rename_i x hx
      split at e
      · rename_i y z hy hz
        obtain rfl := Option.some.inj e
        obtain ⟨h1, h2⟩ := keepBs_some hz
        refine ⟨by simp [h1], fun i b hb => ?_⟩
        cases i with
        | zero => simp at hb; subst hb; exact ⟨x, y, hx, rfl, hy⟩
        | succ i => simp at hb; simpa using h2 i b hb
      · simp at e
    · simp at e
theorem notIn_ok {k : Pos} : ∀ {l : List Pos}, notIn k l = true → ∀ (i : Nat), l[i]? ≠ some k
  | [], _, i => by simp
  | c :: t, h, i => by
    have h : (!(beqPos k c) && notIn k t) = true := h
    rw [Bool.and_eq_true] at h
    cases i with
    | zero =>
      simp only [List.getElem?_cons_zero, ne_eq, Option.some.injEq]
      intro e; subst e
      rw [beqPos_self] at h; exact absurd h.1 (by simp)
    | succ i => simpa using notIn_ok h.2 i
theorem distinct_ok : ∀ {l : List Pos}, distinct l = true → ∀ (i j : Nat) (k : Pos), l[i]? = some k → l[j]? = some k → i = j
  | [], _, i, j, k, h, _ => by simp at h
  | c :: t, h, i, j, k, hi, hj => by
    have h : (notIn c t && distinct t) = true := h
    rw [Bool.and_eq_true] at h
    cases i with
    | zero =>
      cases j with
      | zero => rfl
      | succ j => simp at hi hj; subst hi; exact absurd hj (notIn_ok h.1 j)
    | succ i =>
      cases j with
      | zero => simp at hi hj; subst hj; exact absurd hi (notIn_ok h.1 i)
      | succ j => simp at hi hj; rw [distinct_ok h.2 i j k hi hj]
end
def eIx : List Blk → Pos → Pos → Pos → Option Pos
  | [], _, _, _ => none
  | _ :: t, cur, tgt, b => match beqPos b cur with | true => some tgt | false => eIx t cur.succ tgt.succ b
def newAll : List Blk → HP → HP
  | [], h => h
  | k :: t, h => newAll t (h.new k)
def emb (h : HP) (v : AV) (bs : List Blk) : Option (AV × HP) :=
  match ren (eIx bs .h h.nx) v, renBs (eIx bs .h h.nx) bs with | some v, some bs => some (v, newAll bs h) | _, _ => none
section
variable [Rho]
theorem eIx_some : ∀ {bs : List Blk} {cur tgt b c : Pos}, eIx bs cur tgt b = some c → ∃ i, i < bs.length ∧ b.toNat = cur.toNat + i ∧ c.toNat = tgt.toNat + i
  | [], _, _, _, _, h => by simp [eIx] at h
  | k :: t, cur, tgt, b, c, h => by
    simp only [eIx] at h
    split at h
    · rename_i hb
      obtain rfl := Option.some.inj h
      obtain rfl : b = cur := by have := beqPos_eq b cur; rw [hb] at this; simpa using this.symm
      exact ⟨0, by simp, by omega, by omega⟩
    · obtain ⟨i, h1, h2, h3⟩ := eIx_some h
      rw [Pos.toNat_succ] at h2 h3
      exact ⟨i + 1, by simpa using h1, by omega, by omega⟩
theorem newAll_nx : ∀ (bs : List Blk) (h : HP), (newAll bs h).nx.toNat = h.nx.toNat + bs.length
  | [], h => rfl
  | k :: t, h => by
    show (newAll t (h.new k)).nx.toNat = _
    rw [newAll_nx t, HP.nx_new, Pos.toNat_succ]; simp; omega
theorem newAll_get : ∀ (bs : List Blk) (h : HP) (b : Pos), (newAll bs h).get b = if h.nx.toNat ≤ b.toNat ∧ b.toNat < h.nx.toNat + bs.length then bs[b.toNat - h.nx.toNat]? else h.get b
  | [], h, b => by rw [if_neg (by simp only [List.length_nil]; omega)]; rfl
  | k :: t, h, b => by
    show (newAll t (h.new k)).get b = _
    rw [newAll_get t, HP.nx_new, Pos.toNat_succ, HP.get_new]
    by_cases e : b = h.nx
    · subst e
      rw [if_neg (by omega), if_pos rfl, if_pos (by simp)]; simp
    · have hne : b.toNat ≠ h.nx.toNat := fun e' => e (Pos.toNat_inj e')
      rw [if_neg e]
      by_cases hc : h.nx.toNat + 1 ≤ b.toNat ∧ b.toNat < h.nx.toNat + 1 + t.length
      · rw [if_pos hc, if_pos (by simp; omega), show b.toNat - h.nx.toNat = (b.toNat - (h.nx.toNat + 1)) + 1 from by omega]; simp
      · rw [if_neg hc, if_neg (by simp; omega)]
theorem renBs_some {σ : Pos → Option Pos} : ∀ {bs bs' : List Blk}, renBs σ bs = some bs' → bs'.length = bs.length ∧ ∀ (i : Nat) (k : Blk), bs[i]? = some k → ∃ k', bs'[i]? = some k' ∧ renB σ k = some k'
  | [], _, e => by simp only [renBs] at e; obtain rfl := Option.some.inj e; exact ⟨rfl, fun i k h => by simp at h⟩
  | k :: t, _, e => by
    simp only [renBs] at e
    split at e
    · rename_i y z hy hz
      obtain rfl := Option.some.inj e
      obtain ⟨h1, h2⟩ := renBs_some hz
      refine ⟨by simp [h1], fun i b hb => ?_⟩
      cases i with
      | zero => simp at hb; subst hb; exact ⟨y, rfl, hy⟩
      | succ i => simp at hb; simpa using h2 i b hb
    · simp at e
structure Left (w w' : World) (φ : Phi) (v : Value) (a : AV) (bs : List Blk) : Prop where
  val : RV φ v a
  blk : ∀ (i : Nat) (k : Blk) (l : Loc), bs[i]? = some k → φ (posOf i) = some l → w.heap.size ≤ l.blk ∧ l.blk < w'.heap.size ∧ BlkOk w φ w' l k ∧ k.wr = true
  inj : ∀ (i j : Nat) (l l' : Loc), i < bs.length → j < bs.length → φ (posOf i) = some l → φ (posOf j) = some l' → l.blk = l'.blk → i = j
theorem left_of {w w' : World} {φ : Phi} {h : HP} {v : Value} {a a' : AV} {ks : List Pos} {bs : List Blk} (hd : distinct ks = true) (hv : RV φ v a) (r : Rel w φ h w') (e : gc ks (some (.ret a h, .no)) = some (a', bs)) : ∃ ψ, Left w w' ψ v a' bs := by
  simp only [gc] at e
  split at e
  · rename_i x y hx hy
    simp only [Option.some.injEq, Prod.mk.injEq] at e
    obtain ⟨rfl, rfl⟩ := e
    obtain ⟨hl, hb⟩ := keepBs_some hy
    have hσ : ∀ b c l, kIx ks .h b = some c → φ b = some l → (fun c : Pos => (ks[c.toNat - 1]?).bind φ) c = some l := by
      intro b c l hc hl
      obtain ⟨i, h1, h2⟩ := kIx_some hc
      show (ks[c.toNat - 1]?).bind φ = some l
      rw [h2, show Pos.h.toNat + i - 1 = i from by simp [Pos.toNat], h1]; exact hl
    have hψ : ∀ i, (ks[(posOf i).toNat - 1]?).bind φ = (ks[i]?).bind φ := by
      intro i
      rw [posOf_toNat]; rfl
    refine ⟨fun c => (ks[c.toNat - 1]?).bind φ, hv.ren hσ hx, fun i k l hi hl' => ?_, fun i j l l' hi hj h1 h2 hbl => ?_⟩
    · have hl' : (ks[(posOf i).toNat - 1]?).bind φ = some l := hl'
      rw [hψ] at hl'
      obtain ⟨b, hb1, hb2⟩ := Option.bind_eq_some_iff.1 hl'
      obtain ⟨k1, k2, h1, h2, h3⟩ := hb i b hb1
      rw [hi] at h2
      obtain rfl := Option.some.inj h2
      have h4 := r.ok b l k1 hb2 h1
      exact ⟨h4.new (w0 := w) h3, (r.dom b l hb2).2, h4.ren hσ (Nat.le_refl _) h3, (renB_wr h3).2⟩
    · have h1 : (ks[(posOf i).toNat - 1]?).bind φ = some l := h1
      have h2 : (ks[(posOf j).toNat - 1]?).bind φ = some l' := h2
      rw [hψ] at h1 h2
      obtain ⟨b, hb1, hb2⟩ := Option.bind_eq_some_iff.1 h1
      obtain ⟨c, hc1, hc2⟩ := Option.bind_eq_some_iff.1 h2
      obtain ⟨k1, k2, g1, g2, g3⟩ := hb i b hb1
      obtain ⟨k3, k4, g4, g5, g6⟩ := hb j c hc1
      have := r.inj b c l l' k1 k3 hb2 hc2 g1 g4 (renB_wr g3).1 hbl
      subst this
      exact distinct_ok hd i j b hb1 hc1
  · simp at e
theorem Left.over {w0 w w' : World} {φ φ1 ψ : Phi} {h h1 : HP} {v : Value} {a a' : AV} {bs : List Blk} {h' : HP} (r : Rel w0 φ h w) (r1 : Rel w φ1 h1 w') (lf : Left w w' ψ v a bs) (e : emb h a bs = some (a', h')) :
    ∃ χ, RV χ v a' ∧ Rel w0 χ h' w' ∧ Ext φ h w χ h' w' := by
  simp only [emb] at e
  split at e
  · rename_i x y hx hy
    simp only [Option.some.injEq, Prod.mk.injEq] at e
    obtain ⟨rfl, rfl⟩ := e
    obtain ⟨hl, hb⟩ := renBs_some hy
    have hin : ∀ b : Pos, h.nx.toNat ≤ b.toNat → φ b = none := by
      intro b hb'
      cases hc : φ b with
      | none => rfl
      | some l => have := (r.dom b l hc).1; omega
    have hσ : ∀ b c l, eIx bs .h h.nx b = some c → ψ b = some l → (fun b : Pos => if h.nx.toNat ≤ b.toNat ∧ b.toNat < h.nx.toNat + bs.length then ψ (posOf (b.toNat - h.nx.toNat)) else φ b) c = some l := by
      intro b c l hc hl'
      obtain ⟨i, g1, g2, g3⟩ := eIx_some hc
      show (if _ then _ else _) = _
      rw [if_pos ⟨by omega, by omega⟩, show c.toNat - h.nx.toNat = i from by omega]
      rw [show b = posOf i from Pos.toNat_inj (by rw [posOf_toNat, g2]; simp [Pos.toNat]; omega)] at hl'
      exact hl'
    have hle : φ.le (fun b : Pos => if h.nx.toNat ≤ b.toNat ∧ b.toNat < h.nx.toNat + bs.length then ψ (posOf (b.toNat - h.nx.toNat)) else φ b) := by
      intro b l hb'
      show (if _ then _ else _) = _
      rw [if_neg]; exact hb'
      intro hc; rw [hin b hc.1] at hb'; simp at hb'
    have hold : ∀ i, i < w.heap.size → w'.heap[i]? = w.heap[i]? := r1.old
    refine ⟨fun b => if h.nx.toNat ≤ b.toNat ∧ b.toNat < h.nx.toNat + bs.length then ψ (posOf (b.toNat - h.nx.toNat)) else φ b, lf.val.ren hσ hx, ⟨r1.os.trans r.os, r1.tape.trans r.tape, r1.output.trans r.output, Nat.le_trans r.size r1.size, fun i hi => ?_, ⟨r.gb.1.trans hle, r.gb.2⟩, fun b hb' => ?_, fun b l hb' => ?_, fun b l k hb' hk => ?_, fun b c l l' k k' hb' hc hk hk' hw hbl => ?_⟩, ⟨hle, by rw [newAll_nx]; omega, r1.size, fun b hb' hn => ?_⟩⟩
    · rw [r1.old i (by have := r.size; omega)]; exact r.old i hi
    · rw [newAll_nx] at hb'
      rw [newAll_get, if_neg (by omega)]; exact r.wf b (by omega)
    · rw [newAll_nx]
      have hb' : (if h.nx.toNat ≤ b.toNat ∧ b.toNat < h.nx.toNat + bs.length then ψ (posOf (b.toNat - h.nx.toNat)) else φ b) = some l := hb'
      split at hb'
      · rename_i hc
        obtain ⟨k, hk⟩ : ∃ k, bs[b.toNat - h.nx.toNat]? = some k := ⟨_, List.getElem?_eq_getElem (by omega)⟩
        have := lf.blk _ k l hk hb'
        exact ⟨by omega, this.2.1⟩
      · have := r.dom b l hb'
        have h2 := r1.size
        exact ⟨by omega, by omega⟩
    · rw [newAll_get, hl] at hk
      have hb' : (if h.nx.toNat ≤ b.toNat ∧ b.toNat < h.nx.toNat + bs.length then ψ (posOf (b.toNat - h.nx.toNat)) else φ b) = some l := hb'
      by_cases hc : h.nx.toNat ≤ b.toNat ∧ b.toNat < h.nx.toNat + bs.length
      · rw [if_pos hc] at hb' hk
        obtain ⟨k1, hk1⟩ : ∃ k, bs[b.toNat - h.nx.toNat]? = some k := ⟨_, List.getElem?_eq_getElem (by omega)⟩
        obtain ⟨k2, hk2, hk3⟩ := hb _ k1 hk1
        rw [hk] at hk2
        obtain rfl := Option.some.inj hk2
        exact (lf.blk _ k1 l hk1 hb').2.2.1.ren hσ r.size hk3
      · rw [if_neg hc] at hb' hk
        exact (r.ok b l k hb' hk).step hle (hold _ (r.dom b l hb').2)
    · rw [newAll_get, hl] at hk hk'
      have hb' : (if h.nx.toNat ≤ b.toNat ∧ b.toNat < h.nx.toNat + bs.length then ψ (posOf (b.toNat - h.nx.toNat)) else φ b) = some l := hb'
      have hc : (if h.nx.toNat ≤ c.toNat ∧ c.toNat < h.nx.toNat + bs.length then ψ (posOf (c.toNat - h.nx.toNat)) else φ c) = some l' := hc
      by_cases h1 : h.nx.toNat ≤ b.toNat ∧ b.toNat < h.nx.toNat + bs.length
      · by_cases h2 : h.nx.toNat ≤ c.toNat ∧ c.toNat < h.nx.toNat + bs.length
        · rw [if_pos h1] at hb'; rw [if_pos h2] at hc
          have := lf.inj _ _ l l' (by omega) (by omega) hb' hc hbl
          exact Pos.toNat_inj (by omega)
        · rw [if_pos h1] at hb'; rw [if_neg h2] at hc
          obtain ⟨k1, hk1⟩ : ∃ k, bs[b.toNat - h.nx.toNat]? = some k := ⟨_, List.getElem?_eq_getElem (by omega)⟩
          have g1 := (lf.blk _ k1 l hk1 hb').1
          have g2 := (r.dom c l' hc).2
          omega
      · by_cases h2 : h.nx.toNat ≤ c.toNat ∧ c.toNat < h.nx.toNat + bs.length
        · rw [if_neg h1] at hb'; rw [if_pos h2] at hc
          obtain ⟨k1, hk1⟩ : ∃ k, bs[c.toNat - h.nx.toNat]? = some k := ⟨_, List.getElem?_eq_getElem (by omega)⟩
          have g1 := (lf.blk _ k1 l' hk1 hc).1
          have g2 := (r.dom b l hb').2
          omega
        · rw [if_neg h1] at hb' hk; rw [if_neg h2] at hc hk'
          exact r.inj b c l l' k k' hb' hc hk hk' hw hbl
    · have hne : ¬ (h.nx.toNat ≤ b.toNat ∧ b.toNat < h.nx.toNat + bs.length) := by omega
      exact ⟨by show (if _ then _ else _) = _; rw [if_neg hne]; exact hn, by rw [newAll_get, hl, if_neg hne]⟩
  · simp at e
end
inductive Pat | eq (a : AV) | row (sz n : Nat) (vs : List AV) deriving Inhabited
def view : List Pat → HP → List AV × HP
  | [], h => ([], h)
  | .eq a :: ps, h => (a :: (view ps h).1, (view ps h).2)
  | .row _ n vs :: ps, h => (.slice h.nx 0 n .unk :: (view ps (h.new (.cells false vs))).1, (view ps (h.new (.cells false vs))).2)
def matR (sz n : Nat) (vs : List AV) (x : AV) (h : HP) : Bool :=
  match x with
  | .slice b o m _ => Nat.beq m n && match h.get b with | some (.cells _ ws) => (match takeN (Nat.mul n sz) (dropN o ws) with | some us => beqs us vs | none => false) | _ => false
  | _ => false
def mat : List Pat → List AV → HP → Bool
  | [], [], _ => true
  | .eq a :: ps, x :: xs, h => beqA x a && mat ps xs h
  | .row sz n vs :: ps, x :: xs, h => matR sz n vs x h && mat ps xs h
  | _, _, _ => false
def plainP : List Pat → Bool
  | [] => true
  | .eq a :: ps => plain a && plainP ps
  | .row _ _ vs :: ps => plains vs && plainP ps
section
variable [Rho]
theorem GB.on {w0 w : World} {φ : Phi} {h : HP} (r : Rel w0 φ h w) : GB w := by
  obtain ⟨_, g1, g2⟩ := r.gb
  refine ⟨fun b l hb => Nat.lt_of_lt_of_le (g1 b l hb) r.size, fun b l k hb hk => ?_⟩
  have h1 := g2 b l k hb hk
  have h2 := g1 b l hb
  obtain ⟨vs, rfl⟩ := Rho.gro b k hk
  obtain ⟨cs, hv, hc⟩ := h1
  refine ⟨cs, hv, .inl ⟨Nat.lt_of_lt_of_le h2 r.size, ?_⟩⟩
  rcases hc with ⟨_, hc⟩ | ⟨hge, _⟩
  · intro i v hi
    have := hc i v hi
    rw [← this]
    simp only [World.cell?, r.old _ h2]
  · exact absurd h2 (by omega)
theorem Rel.row {w : World} {φ : Phi} {h : HP} (r : Rel w φ h w) (ro : ∀ b k, h.get b = some k → k.wr = false) {l : Loc} {cs : List Value} {vs : List AV} (hl : l.blk < w.heap.size) (hv : RVs φ cs vs) (hc : ∀ i v, cs[i]? = some v → w.cell? ⟨l.blk, l.off + i, none⟩ = some v) :
    Rel w (φ.add h.nx l) (h.new (.cells false vs)) w ∧ φ.le (φ.add h.nx l) ∧ ∀ b k, (h.new (.cells false vs)).get b = some k → k.wr = false := by
  have hn := r.nx_none
  have hle := Phi.add_le (l := l) hn
  refine ⟨⟨r.os, r.tape, r.output, r.size, r.old, ⟨r.gb.1.trans hle, r.gb.2⟩, fun b hb => ?_, fun b l' hb => ?_, fun b l' k hb hk => ?_, fun b c l1 l2 k k' h1 h2 h3 h4 hw _ => ?_⟩, hle, fun b k hk => ?_⟩
  · rw [HP.nx_new, Pos.toNat_succ] at hb
    rw [HP.get_new, if_neg (by intro e; subst e; omega)]; exact r.wf b (by omega)
  · rw [HP.nx_new, Pos.toNat_succ]
    unfold Phi.add at hb
    split at hb
    · rename_i e; subst e
      obtain rfl := Option.some.inj hb
      exact ⟨by omega, hl⟩
    · have := r.dom b l' hb; exact ⟨by omega, this.2⟩
  · rw [HP.get_new] at hk
    unfold Phi.add at hb
    by_cases e : b = h.nx
    · rw [if_pos e] at hb hk
      obtain rfl := Option.some.inj hb
      obtain rfl := Option.some.inj hk
      exact ⟨cs, hv.mono hle, .inl ⟨hl, hc⟩⟩
    · rw [if_neg e] at hb hk
      exact (r.ok b l' k hb hk).step hle rfl
  · rw [HP.get_new] at h3
    split at h3
    · obtain rfl := Option.some.inj h3; exact Bool.noConfusion (show false = true from hw)
    · rw [ro b k h3] at hw; exact Bool.noConfusion hw
  · rw [HP.get_new] at hk
    split at hk
    · obtain rfl := Option.some.inj hk; rfl
    · exact ro b k hk
theorem beqs_take {n : Nat} {l us : List AV} (h : takeN n l = some us) : us = l.take n := (takeN_some h).1
theorem matR_ok {w0 w : World} {φ : Phi} {h : HP} (r : Rel w0 φ h w) {sz n : Nat} {vs : List AV} {x : AV} {v : Value} (hv : RV φ v x) (hp : plains vs = true) (hm : matR sz n vs x h = true) {φ0 : Phi} {h0 : HP} (r0 : Rel w φ0 h0 w) (ro : ∀ b k, h0.get b = some k → k.wr = false) :
    ∃ φ1, φ0.le φ1 ∧ Rel w φ1 (h0.new (.cells false vs)) w ∧ (∀ b k, (h0.new (.cells false vs)).get b = some k → k.wr = false) ∧ RV φ1 v (.slice h0.nx 0 n .unk) := by
  unfold matR at hm
  split at hm
  · rename_i b o m c
    rw [Bool.and_eq_true] at hm
    obtain ⟨hm1, hm2⟩ := hm
    obtain rfl := Nat.eq_of_beq_eq_true hm1
    split at hm2
    · rename_i wr ws hb
      split at hm2
      · rename_i us hu
        have := beqs_eq hm2
        subst this
        obtain ⟨hu1, hu2⟩ := takeN_some hu
        rw [dropN_eq] at hu1
        cases hv with
        | slice _ _ _ cap _ l hl hle he hs =>
          obtain ⟨cs, hcs, hcell⟩ := r.read hl hb
          have hrow : RVs φ0 ((cs.drop o).take (Nat.mul m sz)) us := (show RVs φ ((cs.drop o).take (Nat.mul m sz)) us by rw [hu1]; exact (hcs.drop o).take _).plain hp
          obtain ⟨q1, q2, q3⟩ := r0.row ro (l := ⟨l.blk, l.off + o, l.sz⟩) (r.dom b l hl).2 hrow (fun i v hi => by
            rw [List.getElem?_take] at hi
            split at hi
            · rw [List.getElem?_drop] at hi
              have := hcell (o + i) v hi
              rw [← this]; simp only [World.cell?, Nat.add_assoc]
            · simp at hi)
          refine ⟨_, q2, q1, q3, ?_⟩
          have := RV.slice (φ := φ0.add h0.nx ⟨l.blk, l.off + o, l.sz⟩) h0.nx 0 m cap .unk ⟨l.blk, l.off + o, l.sz⟩ Phi.add_same hle (fun k e => by simp at e) (fun z e => by simp at e)
          simpa using this
        | slice0 a _ _ cap =>
          have hz : us = [] := by rw [hu1]; show List.take (0 * sz) _ = []; simp
          subst hz
          obtain ⟨sz0, hr⟩ : ∃ l : Loc, l.blk < w.heap.size ∨ ¬ ∃ l : Loc, l.blk < w.heap.size := by
            by_cases hh : ∃ l : Loc, l.blk < w.heap.size
            · obtain ⟨l, hl⟩ := hh; exact ⟨l, .inl hl⟩
            · exact ⟨⟨0, 0, 0⟩, .inr hh⟩
          refine ⟨φ0, .refl _, ⟨r0.os, r0.tape, r0.output, r0.size, r0.old, r0.gb, fun b hb => ?_, fun b l' hb => ?_, fun b l' k hb hk => ?_, fun b c l1 l2 k k' h1 h2 h3 h4 hw _ => ?_⟩, fun b k hk => ?_, .slice0 _ _ _ _⟩
          · rw [HP.nx_new, Pos.toNat_succ] at hb
            rw [HP.get_new, if_neg (by intro e; subst e; omega)]; exact r0.wf b (by omega)
          · rw [HP.nx_new, Pos.toNat_succ]
            have := r0.dom b l' hb; exact ⟨by omega, this.2⟩
          · rw [HP.get_new, if_neg (by intro e; subst e; rw [r0.nx_none] at hb; simp at hb)] at hk
            exact r0.ok b l' k hb hk
          · rw [HP.get_new, if_neg (by intro e; subst e; rw [r0.nx_none] at h1; simp at h1)] at h3
            rw [ro b k h3] at hw; exact Bool.noConfusion hw
          · rw [HP.get_new] at hk
            split at hk
            · obtain rfl := Option.some.inj hk; rfl
            · exact ro b k hk
      · exact Bool.noConfusion hm2
    · exact Bool.noConfusion hm2
  · exact Bool.noConfusion hm
theorem mat_ok {w0 w : World} {φ : Phi} {h : HP} (r : Rel w0 φ h w) : ∀ {ps : List Pat} {xs : List AV} {vs : List Value}, RVs φ vs xs → plainP ps = true → mat ps xs h = true → ∀ {φ0 : Phi} {h0 : HP}, Rel w φ0 h0 w → (∀ b k, h0.get b = some k → k.wr = false) →
    ∃ φ1, φ0.le φ1 ∧ Rel w φ1 (view ps h0).2 w ∧ RVs φ1 vs (view ps h0).1
  | [], [], _, .nil, _, _, φ0, h0, r0, _ => ⟨φ0, .refl _, r0, .nil⟩
  | [], _ :: _, _, _, _, hm, _, _, _, _ => Bool.noConfusion (show false = true from hm)
  | .eq _ :: _, [], _, _, _, hm, _, _, _, _ => Bool.noConfusion (show false = true from hm)
  | .row .. :: _, [], _, _, _, hm, _, _, _, _ => Bool.noConfusion (show false = true from hm)
  | .eq a :: ps, x :: xs, _, .cons v _ vs _ hv hvs, hp, hm, φ0, h0, r0, ro => by
    have hm : (beqA x a && mat ps xs h) = true := hm
    have hp : (plain a && plainP ps) = true := hp
    rw [Bool.and_eq_true] at hm hp
    obtain rfl := beqA_eq hm.1
    obtain ⟨φ1, h1, h2, h3⟩ := mat_ok r hvs hp.2 hm.2 r0 ro
    exact ⟨φ1, h1, h2, .cons _ _ _ _ (hv.plain hp.1) h3⟩
  | .row sz n us :: ps, x :: xs, _, .cons v _ vs _ hv hvs, hp, hm, φ0, h0, r0, ro => by
    have hm : (matR sz n us x h && mat ps xs h) = true := hm
    have hp : (plains us && plainP ps) = true := hp
    rw [Bool.and_eq_true] at hm hp
    obtain ⟨φ1, h1, h2, h3, h4⟩ := matR_ok r hv hp.1 hm.1 r0 ro
    obtain ⟨φ2, h5, h6, h7⟩ := mat_ok r hvs hp.2 hm.2 h2 h3
    exact ⟨φ2, h1.trans h5, h6, .cons _ _ _ _ (h4.mono h5) h7⟩
end
structure Memo where
  ps : List Pat
  v : AV
  bs : List Blk
def Memo.at (e : Memo) (as : List AV) (h : HP) : Option (AV × HP) := match mat e.ps as h with | true => emb h e.v e.bs | false => none
section
variable [Rho]
def Memo.Ran (t : ST) (n f : Nat) (e : Memo) : Prop := plainP e.ps = true ∧ ∃ ks, distinct ks = true ∧ gc ks (SF t n f (view e.ps Rho.g0).1 (view e.ps Rho.g0).2 .no) = some (e.v, e.bs)
theorem Memo.run {P : Program} {t : ST} (hP : P.follows .mixedOrders = true) (ht : ST.Ok P t) {n f : Nat} {e : Memo} (he : e.Ran t n f) {w0 w : World} {φ : Phi} {h : HP} {as : List AV} {vs : List Value} {x : AV × HP} (hx : e.at as h = some x) (r : Rel w0 φ h w) (hv : RVs φ vs as) :
    Calls P f vs.toArray w (FinR w0 φ h w (.ret x.1 x.2)) := by
  obtain ⟨hp, ks, hd, hg⟩ := he
  unfold Memo.at at hx
  split at hx
  · rename_i hm
    obtain ⟨φ1, _, r1, hv1⟩ := mat_ok r hv hp hm (rel_start (GB.on r)) (fun b k hk => by obtain ⟨vs, rfl⟩ := Rho.gro b k hk; rfl)
    cases hs : SF t n f (view e.ps Rho.g0).1 (view e.ps Rho.g0).2 .no with
    | none => rw [hs] at hg; simp [gc] at hg
    | some q =>
      obtain ⟨fin, u⟩ := q
      cases fin with
      | pan c h2 => rw [hs] at hg; cases u <;> simp [gc] at hg
      | ret a h2 =>
        cases u with
        | no =>
          rw [hs] at hg
          refine Calls.mono (calls_ok hP (ST.xok w ht) (ST.tab_ok ht) (SF_ok ht n _ _ _ _ _ hs) r1 hv1) fun ed w' hR => ?_
          cases ed with
          | returned y =>
            obtain ⟨φ', a', h', hf, hr, r', _⟩ := hR
            simp only [Fin.ret.injEq] at hf
            obtain ⟨rfl, rfl⟩ := hf
            obtain ⟨ψ, lf⟩ := left_of hd hr r' hg
            obtain ⟨χ, g1, g2, g3⟩ := lf.over r r' hx
            exact ⟨χ, _, _, rfl, g1, g2, g3⟩
          | panicked ch => obtain ⟨_, _, _, hf, _⟩ := hR; simp at hf
          | outgrown => exact hR.elim
        | returning => rw [hs] at hg; simp [gc] at hg
        | panicking c => rw [hs] at hg; simp [gc] at hg
  · simp at hx
theorem pr_memo {P : Program} {t : ST} (hP : P.follows .mixedOrders = true) (ht : ST.Ok P t) {n f : Nat} (hc : Callable P f) {p : List AV → HP → Option (AV × HP)} (hp : ∀ as h x, p as h = some x → ∃ e : Memo, e.Ran t n f ∧ e.at as h = some x) (w0 : World) : PrOk P w0 f p := by
  refine ⟨hc, fun as x φ h w vs hx r hv => ?_⟩
  obtain ⟨e, he, hx⟩ := hp as h x hx
  exact Memo.run hP ht he hx r hv
def memos : List Memo → List AV → HP → Option (AV × HP)
  | [], _, _ => none
  | e :: l, as, h => match e.at as h with | some r => some r | none => memos l as h
theorem memos_ok {t : ST} {n f : Nat} : ∀ {l : List Memo}, (∀ e ∈ l, e.Ran t n f) → ∀ as h x, memos l as h = some x → ∃ e : Memo, e.Ran t n f ∧ e.at as h = some x
  | [], _, as, h, x, hx => by simp [memos] at hx
  | e :: l, hl, as, h, x, hx => by
    simp only [memos] at hx
    split at hx
    · rename_i r hr; exact ⟨e, hl e (by simp), by rw [hr, hx]⟩
    · exact memos_ok (fun e he => hl e (by simp [he])) as h x hx
end
def yesM : Memo := ⟨[], .bool true, []⟩
theorem yes_ran [Rho] {t : ST} {n f : Nat} (h : gc [] (SF t n f [] Rho.g0 .no) = some (.bool true, [])) : yesM.Ran t n f := ⟨rfl, [], rfl, h⟩
theorem pr_yes [Rho] {P : Program} {t : ST} (hP : P.follows .mixedOrders = true) (ht : ST.Ok P t) {n f : Nat} (hc : Callable P f) (h : gc [] (SF t n f [] Rho.g0 .no) = some (.bool true, [])) (w0 : World) : PrOk P w0 f yesM.at :=
  pr_memo hP ht (n := n) hc (fun as h' x hx => ⟨yesM, yes_ran h, hx⟩) w0
end
end Go.Proofs.YtmoabbfdehaenaaGreatDoor.Ev

namespace Go.Proofs.YtmoabbfdehaenaaGreatDoor.Ev
open Go
noncomputable section
def preL (p : List Nat) : List Nat → Bool := lrec (fun _ => true) (fun x _ ih s => List.casesOn s false (fun y t => Bool.rec false (ih t) (Nat.beq x y))) p
def conL (p : List Nat) (s : List Nat) : Bool := lrec (preL p []) (fun y t ih => Bool.rec ih true (preL p (y :: t))) s
theorem preL_eq : ∀ (p s : List UInt8), p.isPrefixOf s = preL (p.map UInt8.toNat) (s.map UInt8.toNat)
  | [], s => by cases s <;> rfl
  | x :: p, [] => rfl
  | x :: p, y :: s => by
    show (x == y && p.isPrefixOf s) = (Bool.rec false (preL (p.map UInt8.toNat) (s.map UInt8.toNat)) (Nat.beq x.toNat y.toNat) : Bool)
    rw [preL_eq p s]
    cases hb : Nat.beq x.toNat y.toNat with
    | true =>
      have : x = y := UInt8.toNat_inj.1 (Nat.eq_of_beq_eq_true hb)
      subst this; simp
    | false =>
      have hne : ¬ x = y := fun e => Nat.ne_of_beq_eq_false hb (congrArg UInt8.toNat e)
      have : (x == y) = false := by simpa using hne
      rw [this]; rfl
theorem conL_eq (p : List UInt8) : ∀ s : List UInt8, Lib.contains s p = conL (p.map UInt8.toNat) (s.map UInt8.toNat)
  | [] => by
    show decide (0 ≤ (if p.isEmpty then (0 : Int) else -1)) = preL (p.map UInt8.toNat) []
    cases p <;> rfl
  | y :: s => by
    show _ = (Bool.rec (conL (p.map UInt8.toNat) (s.map UInt8.toNat)) true (preL (p.map UInt8.toNat) ((y :: s).map UInt8.toNat)) : Bool)
    rw [← conL_eq p s, ← preL_eq p (y :: s)]
    show decide (0 ≤ (if p.isPrefixOf (y :: s) then (0 : Int) else if Lib.index s p == -1 then -1 else Lib.index s p + 1)) = _
    cases p.isPrefixOf (y :: s) with
    | true => rfl
    | false =>
      have h := Lib.index_ge s p
      show decide (0 ≤ (if Lib.index s p == -1 then (-1 : Int) else Lib.index s p + 1)) = decide (0 ≤ Lib.index s p)
      by_cases e : Lib.index s p = -1
      · rw [e]; rfl
      · have : (Lib.index s p == -1) = false := by simpa using e
        rw [this]
        show decide (0 ≤ Lib.index s p + 1) = _
        simp only [decide_eq_decide]
        omega
def conP (as : List AV) (h : HP) : Option (AV × HP) :=
  match as with
  | [.str s, .str t] => bif Nat.ble (lenL s) 4294967280 then some (.bool (conL t s), h) else none
  | _ => none
abbrev h0G (m : Int) : HP := ⟨.o .h, .node (some (some (.cells false [.int .i64 m]))) .leaf .leaf⟩
theorem h0G_get {m : Int} {b : Pos} {k : Blk} (h : HP.get (h0G m) b = some k) : b = .h ∧ k = .cells false [.int .i64 m] := by
  cases b with
  | h => exact ⟨rfl, (Option.some.inj (show some (Blk.cells false [.int .i64 m]) = some k from h)).symm⟩
  | o p => cases p <;> exact absurd (show (none : Option Blk) = some k from h) (by simp)
  | i p => cases p <;> exact absurd (show (none : Option Blk) = some k from h) (by simp)
abbrev rhoG (m : Int) (h1 : ngl = 1) : Rho where
  r := fun _ => 0
  lt := fun _ => Nat.zero_le _
  g0 := h0G m
  gphi := fun b => if b = .h then some ⟨0, 0, 1⟩ else none
  gdom := fun b l h => by
    split at h
    · rename_i e; subst e; show Pos.toNat .h < Pos.toNat (.o .h); decide
    · simp at h
  gwf := fun b hb => by
    cases hg : HP.get (h0G m) b with
    | none => rfl
    | some k => obtain ⟨rfl, _⟩ := h0G_get hg; exact absurd hb (by show ¬ Pos.toNat (.o .h) ≤ Pos.toNat .h; decide)
  gro := fun b k h => ⟨_, (h0G_get h).2⟩
  ggl := fun g hg => by
    have : g = 0 := by omega
    subst this
    exact ⟨1, rfl⟩
  ad := fun _ _ _ _ => rfl
theorem gb_of {m : Int} {h1 : ngl = 1} {w : World} (hc : w.cell? ⟨0, 0, none⟩ = some (.int .i64 m)) : letI := rhoG m h1; GB w := by
  letI := rhoG m h1
  have hlt : 0 < w.heap.size := by
    rcases Nat.eq_zero_or_pos w.heap.size with h | h
    · rw [World.cell?, Array.getElem?_eq_none (by show w.heap.size ≤ 0; omega)] at hc; simp at hc
    · exact h
  have gp : ∀ {b l}, Rho.gphi b = some l → b = .h ∧ l = ⟨0, 0, 1⟩ := by
    intro b l h
    have h : (if b = .h then some (⟨0, 0, 1⟩ : Loc) else none) = some l := h
    split at h
    · rename_i e; exact ⟨e, (Option.some.inj h).symm⟩
    · simp at h
  refine ⟨fun b l h => by obtain ⟨_, rfl⟩ := gp h; exact hlt, fun b l k h hk => ?_⟩
  obtain ⟨rfl, rfl⟩ := gp h
  obtain ⟨_, rfl⟩ := h0G_get (m := m) hk
  refine ⟨[.int .i64 m], .cons _ _ _ _ (.int _ _ (InR.no (by decide))) .nil, .inl ⟨hlt, fun i v hi => ?_⟩⟩
  cases i with
  | zero => simp at hi; subst hi; exact hc
  | succ i => simp at hi
section
variable [Rho]
theorem pr_con {P : Program} {f g : Nat} (hc : Callable P f)
    (hcon : ∀ (s sub : ByteArray) (m : Int) (w : World), s.size < 4294967281 → w.cell? ⟨g, 0, none⟩ = some (.int .i64 m) → Calls P f #[.string s, .string sub] w fun e w' => e = .returned (.bool (Lib.contains s.data.toList sub.data.toList)) ∧ w' = w)
    (hg : ∀ w : World, GB w → ∃ m, w.cell? ⟨g, 0, none⟩ = some (.int .i64 m)) (w0 : World) : PrOk P w0 f conP := by
  refine ⟨hc, fun as x φ h w vs hx r hv => ?_⟩
  unfold conP at hx
  split at hx
  · rename_i s t
    obtain ⟨hl, hx⟩ := bif_eq hx
    obtain rfl := Option.some.inj hx
    have hl := Nat.le_of_ble_eq_true hl
    cases hv with
    | cons v1 _ vs1 _ h1 hs1 =>
      cases hs1 with
      | cons v2 _ vs2 _ h2 hs2 =>
        cases hs2
        cases h1 with
        | str b1 _ e1 =>
          cases h2 with
          | str b2 _ e2 =>
            obtain ⟨m, hm⟩ := hg w (GB.on r)
            have hsz : b1.size < 4294967281 := by
              rw [lenL_eq, ← e1] at hl
              unfold nats at hl
              have : b1.data.toList.length = b1.size := rfl
              simp only [List.length_map] at hl
              omega
            refine Calls.mono (hcon b1 b2 m w hsz hm) fun e w' ⟨he, hw⟩ => ?_
            subst he hw
            refine ⟨φ, _, h, rfl, ?_, r, Ext.refl _ _ _⟩
            rw [conL_eq, show b2.data.toList.map UInt8.toNat = t from e2, show b1.data.toList.map UInt8.toNat = s from e1]
            exact .bool _
  · simp at hx
end
end
end Go.Proofs.YtmoabbfdehaenaaGreatDoor.Ev
