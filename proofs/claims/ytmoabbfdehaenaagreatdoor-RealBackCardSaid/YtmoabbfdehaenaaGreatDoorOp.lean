/- Words of the evaluator at values left open, and at memory left open. -/
import Derived.Test.YtmoabbfdehaenaaGreatDoorGu
import Derived.Test.YtmoabbfdehaenaaGreatDoorPr
set_option linter.unusedVariables false
set_option linter.unusedSimpArgs false
set_option linter.unusedSectionVars false
set_option maxRecDepth 20000
namespace Go.Proofs.YtmoabbfdehaenaaGreatDoor.Lx
open Go Go.Proofs.YtmoabbfdehaenaaGreatDoor.Ev Go.Proofs.YtmoabbfdehaenaaGreatDoor.Sx
noncomputable section
abbrev rh : Rho := rhoV 0 ⟨0, 0, 0⟩ rfl
abbrev iv (n : Nat) : AV := AV.int .i64 (Int.ofNat n)
abbrev uv (n : Nat) : AV := AV.int .u64 (Int.ofNat n)
abbrev bv (n : Nat) : AV := AV.int .u8 (Int.ofNat n)
theorem wr_id {z : Int} (h1 : -9223372036854775808 ≤ z) (h2 : z ≤ 9223372036854775807) : wrQ .i64 z = z := by
  rw [wrQ_eq, @wrapF_eq rh]; unfold IntKind.wrap; simp [IntKind.signed, IntKind.bits]; omega
theorem wr_nat {n : Nat} (h : n ≤ 9223372036854775807) : wrQ .i64 (Int.ofNat n) = Int.ofNat n := wr_id (by show -9223372036854775808 ≤ (n : Int); omega) (by show (n : Int) ≤ _; omega)
theorem lt_dec (a b : Int) : ltQ a b = decide (a < b) := by rw [ltQ_eq, @ltF_eq rh]
theorem le_dec (a b : Int) : leQ a b = decide (a ≤ b) := by rw [leQ_eq, @leF_eq rh]
theorem eq_dec (a b : Int) : eqQ a b = decide (a = b) := by rw [eqQ_eq, @eqF_eq rh]; rfl
theorem lt_nat (a b : Nat) : ltQ (Int.ofNat a) (Int.ofNat b) = decide (a < b) := by
  rw [lt_dec]; exact decide_eq_decide.2 Int.ofNat_lt
theorem le_nat (a b : Nat) : leQ (Int.ofNat a) (Int.ofNat b) = decide (a ≤ b) := by
  rw [le_dec]; exact decide_eq_decide.2 Int.ofNat_le
theorem eq_nat (a b : Nat) : eqQ (Int.ofNat a) (Int.ofNat b) = decide (a = b) := by
  rw [eq_dec]; exact decide_eq_decide.2 ⟨fun h => Int.ofNat.inj h, fun h => congrArg _ h⟩
theorem add_nat (a b : Nat) : addQ (Int.ofNat a) (Int.ofNat b) = Int.ofNat (a + b) := rfl
theorem br_t (x y : Res2) : br true x y = x := rfl
theorem br_f (x y : Res2) : br false x y = y := rfl
theorem br_tt {c : Bool} (h : c = true) (x y : Res2) : br c x y = x := by subst h; rfl
theorem br_ff {c : Bool} (h : c = false) (x y : Res2) : br c x y = y := by subst h; rfl
theorem asI_iv (x : Int) (F : Int → Res2) : asI .i64 (vI x) F = F x := rfl
theorem cal_of {D : CallD} {f : Nat} {xs : List AV} {h h' : HP} {v : AV} (e : D f xs h .no = some (.ret v h', .no)) (k : AV → HP → Res2) : cal D f xs h k = k v h' := by
  unfold cal calC; rw [e]; rfl
theorem calC_of {D : CallD} {f : Nat} {xs : List AV} {h h' : HP} {v : AV} (e : D f xs h .no = some (.ret v h', .no)) (k : AV → HP → Res2) (p : Chain → HP → Res2) : calC D f xs h k p = k v h' := by
  unfold calC; rw [e]; rfl
theorem calC_pan {D : CallD} {f : Nat} {xs : List AV} {h h' : HP} {c : Chain} (e : D f xs h .no = some (.pan c h', .no)) (k : AV → HP → Res2) (p : Chain → HP → Res2) : calC D f xs h k p = p c h' := by
  unfold calC; rw [e]; rfl
theorem ex_tr {X Y : Res2} {v : AV} (e : X = Y) (h : ∃ h2, Y = some (.ret v h2, .no)) : ∃ h2, X = some (.ret v h2, .no) := by rw [e]; exact h
theorem SF_succ (t : ST) (n f : Nat) (xs : List AV) (h : HP) (u : AMode) : SF t (n + 1) f xs h u = t.run f (SF t n) n xs h u := rfl
/- Strings. -/
theorem ixC_s {s : LN} {i c : Nat} (h : s[i]? = some c) (F : AV → Res2) : ixC (vS s) (vI (Int.ofNat i)) F = F (bv c) := by
  show obQ (nth s i) (fun c => F (.int .u8 (.ofNat c))) = _
  rw [nth_eq, h]; rfl
theorem slC_lo {s : LN} {i : Nat} (h : i ≤ s.length) (F : AV → Res2) : slC (vS s) (some (vI (Int.ofNat i))) none F = F (vS (s.drop i)) := by
  show (Bool.rec none (F (.str (dropN i s))) (Nat.ble i (lenL s)) : Res2) = _
  rw [lenL_eq, show Nat.ble i s.length = true from by rw [Nat.ble_eq]; exact h, dropN_eq]
  rfl
theorem takeN_is {α : Type} : ∀ (n : Nat) (l : List α), n ≤ l.length → takeN n l = some (l.take n)
  | 0, l, _ => by rw [takeN_zero]; rfl
  | n + 1, [], h => by simp at h
  | n + 1, a :: l, h => by rw [takeN_cons, takeN_is n l (by simpa using h)]; rfl
theorem slC_hi {s : LN} {i : Nat} (h : i ≤ s.length) (F : AV → Res2) : slC (vS s) none (some (vI (Int.ofNat i))) F = F (vS (s.take i)) := by
  show (Bool.rec none (Bool.rec none (obQ (takeN (Nat.sub i 0) (dropN 0 s)) fun r => F (.str r)) (Nat.ble 0 i)) (Nat.ble i (lenL s)) : Res2) = _
  rw [lenL_eq, show Nat.ble i s.length = true from by rw [Nat.ble_eq]; exact h, dropN_eq, show Nat.sub i 0 = i from rfl, List.drop_zero, takeN_is i s h]
  rfl
theorem asS_s (s : LN) (F : LN → Res2) : asS (vS s) F = F s := rfl
theorem asB_b (c : Bool) (F : Bool → Res2) : asB (vB c) F = F c := rfl
theorem asI_b (c : Nat) (F : Int → Res2) : asI .u8 (bv c) F = F (Int.ofNat c) := rfl
theorem brV_f (x y : Option AV) : brV false x y = y := rfl
theorem obB_b (b : Bool) (F : Bool → Res2) : obB (some (vB b)) F = F b := rfl
theorem get_newQ (h : HP) (k : Blk) : HP.get (HP.newQ h k) (HP.nxQ h) = some k := by
  letI := rh
  rw [HP.newQ_eq, HP.nxQ_eq, HP.get_new, if_pos rfl]
theorem wf_u8 {n : Nat} (h : n ≤ 255) : wrapF .u8 (Int.ofNat n) = Int.ofNat n := by
  rw [@wrapF_eq rh]; unfold IntKind.wrap; simp [IntKind.signed, IntKind.bits]; omega
theorem wf_i64 {n : Nat} (h : n ≤ 9223372036854775807) : wrapF .i64 (Int.ofNat n) = Int.ofNat n := by
  rw [@wrapF_eq rh]; unfold IntKind.wrap; simp [IntKind.signed, IntKind.bits]; omega
theorem obB_b' (b : Bool) (F : Bool → Res2) : obB (some (vB b)) F = F b := rfl
theorem brV_t (x y : Option AV) : brV true x y = x := rfl
theorem obS_s (s : LN) (F : LN → Res2) : obS (some (.str s)) F = F s := rfl
theorem strAdd {a b : LN} (h : a.length + b.length ≤ 9223372036854775807) : strBin .add a b = some (.str (a ++ b)) := by
  show (bif Nat.ble (Nat.add (lenL a) (lenL b)) 9223372036854775807 then some (AV.str (cat a b)) else none) = _
  rw [lenL_eq, lenL_eq, show Nat.ble (Nat.add a.length b.length) 9223372036854775807 = true from by rw [Nat.ble_eq]; exact h, cat_eq]
  rfl
theorem obB_some {X : Option AV} {c : Bool} (e : X = some (vB c)) (F : Bool → Res2) : obB X F = F c := by subst e; rfl
theorem ext0 (x : AV) (l : List AV) (F : AV → Res2) : extC (.tup (x :: l)) 0 F = F x := rfl
theorem ext1 (x y : AV) (l : List AV) (F : AV → Res2) : extC (.tup (x :: y :: l)) 1 F = F y := rfl
theorem ext2 (x y z : AV) (l : List AV) (F : AV → Res2) : extC (.tup (x :: y :: z :: l)) 2 F = F z := rfl
theorem getN (h : HP) (k : Blk) (b : Pos) : HP.get (HP.newQ h k) b = if b = HP.nxQ h then some k else HP.get h b := by
  letI := rh
  rw [HP.newQ_eq, HP.nxQ_eq, HP.get_new]
theorem putQ_is (h : HP) (p : Pos) (x : Option Blk) : HP.putQ h p x = HP.put h p x := by cases h; rfl
theorem getP (h : HP) (p : Pos) (x : Option Blk) (b : Pos) : HP.get (HP.putQ h p x) b = if b = p then x else HP.get h b := by
  letI := rh
  rw [putQ_is, HP.get_put]
theorem nxN (h : HP) (k : Blk) : (HP.nxQ (HP.newQ h k)).toNat = (HP.nxQ h).toNat + 1 := by
  letI := rh
  rw [HP.newQ_eq, HP.nxQ_eq, HP.nxQ_eq, HP.nx_new, Pos.toNat_succ]
theorem nxP (h : HP) (p : Pos) (x : Option Blk) : HP.nxQ (HP.putQ h p x) = HP.nxQ h := by cases h; rfl
theorem neT {a b : Pos} (h : a.toNat ≠ b.toNat) : a ≠ b := fun e => h (by rw [e])
theorem cell_of' {h : HP} {p : Pos} {wr : Bool} {v : AV} (g : HP.get h p = some (.cells wr [v])) (F : AV → Res2) : cellC (.ptr p 0) h F = F v := by
  rw [cellC_eq]
  have e : cellV (.ptr p 0) h = ob (HP.get h p) fun k => match k with | .cells _ vs => nth vs 0 | _ => none := rfl
  rw [e, g]; rfl
theorem ldI_of {h : HP} {p : Pos} {wr : Bool} {z : Nat} (g : HP.get h p = some (.cells wr [iv z])) (F : Int → Res2) : ldI (.ptr p 0) h F = F (Int.ofNat z) := by
  show cellC (.ptr p 0) h (fun v => asI .i64 v F) = _
  rw [cell_of' g]; rfl
theorem ldS_of {h : HP} {p : Pos} {wr : Bool} {x z : AV} {s : LN} (g : HP.get h p = some (.cells wr [x, .str s, z])) (F : LN → Res2) : ldS (.ptr p (Nat.add 0 1)) h F = F s := by
  show cellC (.ptr p (Nat.add 0 1)) h (fun v => asS v F) = _
  rw [cellC_eq]
  have e : cellV (.ptr p (Nat.add 0 1)) h = ob (HP.get h p) fun k => match k with | .cells _ vs => nth vs 1 | _ => none := rfl
  rw [e, g]; rfl
theorem sto_of {h : HP} {p : Pos} {x v : AV} (g : HP.get h p = some (.cells true [x])) (hv : allOne [v] = true) (F : HP → Res2) : stoC (.ptr p 0) v h F = F (HP.putQ h p (some (.cells true [v]))) := by
  rw [stoC_eq]
  have e : storeV (.ptr p 0) v h = ob (HP.get h p) fun k => match k with | .cells true vs => bif allOne [v] then ob (putAt [v] 0 vs) fun r => some (HP.put h p (some (.cells true r))) else none | _ => none := rfl
  rw [e, g, putQ_is]
  show ob (bif allOne [v] then _ else none) F = _
  rw [hv]; rfl
theorem sts_of {h : HP} {p : Pos} {xs cs : List AV} {n : Nat} (g : HP.get h p = some (.cells true xs)) (hv : allOne cs = true) (hn : cs.length = n) (hp : putAt cs 0 xs = some cs) (F : HP → Res2) : stsC n (.ptr p 0) (.agg cs) h F = F (HP.putQ h p (some (.cells true cs))) := by
  rw [stsC_eq]
  have e : storesV n (.ptr p 0) (.agg cs) h = bif Nat.beq (lenL cs) n then ob (HP.get h p) fun k => match k with | .cells true vs => bif allOne cs then ob (putAt cs 0 vs) fun r => some (HP.put h p (some (.cells true r))) else none | _ => none else none := rfl
  rw [e, g, putQ_is, lenL_eq, hn, show Nat.beq n n = true by rw [Nat.beq_eq]]
  show ob (bif allOne cs then ob (putAt cs 0 xs) _ else none) F = _
  rw [hv, hp]; rfl
theorem cells_of {h : HP} {p : Pos} {wr : Bool} {x y z : AV} (g : HP.get h p = some (.cells wr [x, y, z])) (F : AV → Res2) : cellsC 3 (.ptr p 0) h F = F (.agg [x, y, z]) := by
  rw [cellsC_eq]
  have e : cellsV 3 (.ptr p 0) h = ob (HP.get h p) fun k => match k with | .cells _ vs => ob (takeN 3 (dropN 0 vs)) fun r => some (.agg r) | _ => none := rfl
  rw [e, g]; rfl
theorem put_mid (v x : AV) (R : List AV) : ∀ A : List AV, putAt [v] A.length (A ++ x :: R) = some (A ++ v :: R)
  | [] => by
    show putAt [v] 0 (x :: R) = _
    rw [putAt_zero, putOver_cons]
    rfl
  | a :: A => by
    show putAt [v] (A.length + 1) (a :: (A ++ x :: R)) = _
    rw [putAt_cons, put_mid v x R A]
    rfl
theorem sto_at {h : HP} {p : Pos} {A R : List AV} {x v : AV} {i : Nat} (hi : A.length = i) (g : HP.get h p = some (.cells true (A ++ x :: R))) (hv : allOne [v] = true) (F : HP → Res2) : stoC (.ptr p i) v h F = F (HP.putQ h p (some (.cells true (A ++ v :: R)))) := by
  rw [stoC_eq]
  have e : storeV (.ptr p i) v h = ob (HP.get h p) fun k => match k with | .cells true vs => bif allOne [v] then ob (putAt [v] i vs) fun r => some (HP.put h p (some (.cells true r))) else none | _ => none := rfl
  rw [e, g, putQ_is]
  show ob (bif allOne [v] then ob (putAt [v] i (A ++ x :: R)) _ else none) F = _
  rw [hv, ← hi, put_mid]
  rfl
theorem bytes_is : ∀ s : LN, (∀ c ∈ s, c ≤ 255) → bytesOf (s.map bv) = some s
  | [], _ => rfl
  | c :: s, h => by
    have e := bytes_is s fun x hx => h x (by simp [hx])
    unfold bytesOf at e ⊢
    rw [List.map_cons, mapO_cons, e]
    show (bif Nat.ble c 255 then some c else none).bind (fun b => (some s).map (b :: ·)) = _
    rw [show Nat.ble c 255 = true from by rw [Nat.ble_eq]; exact h c (by simp)]
    rfl
theorem bstr_all {h : HP} {p : Pos} {s : LN} {k : Cap} (g : HP.get h p = some (.cells true (s.map bv))) (hs : ∀ c ∈ s, c ≤ 255) : bstrV (.slice p 0 s.length k) h = some (.str s) := by
  have e : bstrV (.slice p 0 s.length k) h = ob (HP.get h p) fun k => match k with | .cells _ vs => ob (takeN s.length (dropN 0 vs)) fun r => ob (bytesOf r) fun l => some (.str l) | _ => none := rfl
  rw [e, g]
  show ob (takeN s.length (s.map bv)) _ = _
  rw [takeN_is s.length (s.map bv) (by simp), List.take_of_length_le (by simp)]
  show ob (bytesOf (s.map bv)) _ = _
  rw [bytes_is s hs]
  rfl
theorem gc_tr {ks : List Pos} {X Y : Res2} {r : Option (AV × List Blk)} (e : X = Y) (h : gc ks Y = r) : gc ks X = r := by rw [e]; exact h
def hpOf (r : Res2) : HP := match r with | some (.ret _ h, _) => h | some (.pan _ h, _) => h | _ => ⟨.h, .leaf⟩
def rt (h : HP) : Res2 := some (.ret .nilp h, .no)
/-- A plain answer, whatever is left behind. -/
theorem call_plain [Rho] {P : Program} {t : ST} (hP : P.follows .mixedOrders = true) (ht : ST.Ok P t) {n f : Nat} {xs : List AV} {v : AV} (h1 : plains xs = true) (h2 : plain v = true) (h3 : ∀ h, emb h v [] = some (v, h)) (h4 : ∃ h2, SF t n f xs Rho.g0 .no = some (.ret v h2, .no)) {w0 w : World} {φ : Phi} {h : HP} (r : Rel w0 φ h w) {vs : List Value} (hv : RVs φ vs xs) : Calls P f vs.toArray w (FinR w0 φ h w (.ret v h)) := by
  obtain ⟨hh, h5⟩ := h4
  refine Calls.mono (calls_ok hP (ST.xok w ht) (ST.tab_ok ht) (SF_ok ht n _ _ _ _ _ h5) (rel_start (GB.on r)) (hv.plain h1)) fun ed w' hR => ?_
  cases ed with
  | returned y =>
    obtain ⟨φ', a', h', hf, hr, r', _⟩ := hR
    simp only [Fin.ret.injEq] at hf
    obtain ⟨rfl, rfl⟩ := hf
    have lf : Go.Proofs.YtmoabbfdehaenaaGreatDoor.Ev.Left w w' φ' y v [] := ⟨hr, fun i k l hi => by simp at hi, fun i j l l' hi => by simp at hi⟩
    obtain ⟨χ, g1, g2, g3⟩ := lf.over r r' (h3 h)
    exact ⟨χ, _, _, rfl, g1, g2, g3⟩
  | panicked ch => obtain ⟨_, _, _, hf, _⟩ := hR; simp at hf
  | outgrown => exact hR.elim
end
end Go.Proofs.YtmoabbfdehaenaaGreatDoor.Lx
