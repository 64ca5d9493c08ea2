/- Long numbers as lists of digits in memory: memory, words, and what the plain laws of digits are. -/
import Derived.Test.YtakcpnpeadkfpaaGreatDoorSt
set_option linter.unusedVariables false
set_option linter.unusedSimpArgs false
set_option linter.unusedSectionVars false
namespace Go.Proofs.YtakcpnpeadkfpaaGreatDoor.Lg
open Go Go.Proofs.YtakcpnpeadkfpaaGreatDoor.Ev
noncomputable section
theorem get_new (h : HP) (x : Blk) (b : Pos) : (HP.newQ h x).get b = if b = HP.nxQ h then some x else h.get b := by
 cases h with
 | mk nx m =>
  show ob (T.get b (T.set (some x) nx m)) (fun o => o) = if b = nx then some x else ob (T.get b m) (fun o => o)
  rw [T.get_set]; split <;> rfl
theorem nx_new (h : HP) (x : Blk) : (HP.nxQ (HP.newQ h x)).toNat = (HP.nxQ h).toNat + 1 := by
 cases h with | mk nx m => exact Pos.toNat_succ nx
theorem get_put (h : HP) (c : Pos) (x : Option Blk) (b : Pos) : (HP.put h c x).get b = if b = c then x else h.get b := by
 cases h with
 | mk nx m =>
  show ob (T.get b (T.set x c m)) (fun o => o) = if b = c then x else ob (T.get b m) (fun o => o)
  rw [T.get_set]; split <;> rfl
theorem nx_put (h : HP) (c : Pos) (x : Option Blk) : HP.nxQ (HP.put h c x) = HP.nxQ h := by cases h; rfl
/-- Nothing lies where nothing was made yet. -/
def Wf (h : HP) : Prop := ∀ b, (HP.nxQ h).toNat ≤ b.toNat → h.get b = none
def Le (h h' : HP) : Prop := (HP.nxQ h).toNat ≤ (HP.nxQ h').toNat ∧ ∀ b k, h.get b = some k → h'.get b = some k
theorem Le.refl (h : HP) : Le h h := ⟨Nat.le_refl _, fun _ _ e => e⟩
theorem Le.trans {a b c : HP} (x : Le a b) (y : Le b c) : Le a c := ⟨Nat.le_trans x.1 y.1, fun p k e => y.2 p k (x.2 p k e)⟩
theorem Wf.lt {h : HP} (w : Wf h) {b : Pos} {k : Blk} (e : h.get b = some k) : b.toNat < (HP.nxQ h).toNat := by
 rcases Nat.lt_or_ge b.toNat (HP.nxQ h).toNat with g | g
 ·exact g
 ·rw [w b g] at e; cases e
theorem Wf.new {h : HP} (w : Wf h) (x : Blk) : Wf (HP.newQ h x) := fun b hb => by
 rw [nx_new] at hb
 rw [get_new, if_neg (fun e => by subst e; omega)]
 exact w b (by omega)
theorem Wf.put {h : HP} (w : Wf h) (c : Pos) (x : Option Blk) (hc : c.toNat < (HP.nxQ h).toNat) : Wf (HP.put h c x) := fun b hb => by
 rw [nx_put] at hb
 rw [get_put, if_neg (fun e => by subst e; omega)]
 exact w b hb
theorem Le.new {h : HP} (w : Wf h) (x : Blk) : Le h (HP.newQ h x) := by
 refine ⟨by rw [nx_new]; omega, fun b k e => ?_⟩
 rw [get_new, if_neg (fun c => ?_)]
 ·exact e
 ·subst c; have := w.lt e; omega
abbrev iv (n : Nat) : AV := vI (Int.ofNat n)
/-- A list of numbers in memory. -/
def IsL (h : HP) (v : AV) (l : List Nat) : Prop := (v = .nils ∧ l = []) ∨ ∃ b vs, v = .slice b 0 l.length (.spare 1) ∧ h.get b = some (.cells true vs) ∧ ∀ i, i < l.length → vs[i]? = some (iv (l.getD i 0))
theorem IsL.mono {h h' : HP} {v : AV} {l : List Nat} (e : Le h h') (x : IsL h v l) : IsL h' v l := by
 rcases x with x | ⟨b, vs, h1, h2, h3⟩
 ·exact .inl x
 ·exact .inr ⟨b, vs, h1, e.2 _ _ h2, h3⟩
/-- A list that a call makes by appends: h0 is what was there when it began. -/
def OwnL (h0 h : HP) (v : AV) (l : List Nat) : Prop := Wf h0 ∧ Wf h ∧ Le h0 h ∧ ((v = .nils ∧ l = []) ∨ ∃ b, v = .slice b 0 l.length (.spare 1) ∧ (HP.nxQ h0).toNat ≤ b.toNat ∧ h.get b = some (.cells true (l.map iv)))
theorem OwnL.nil {h : HP} (w : Wf h) : OwnL h h .nils [] := ⟨w, w, Le.refl h, .inl ⟨rfl, rfl⟩⟩
theorem OwnL.isL {h0 h : HP} {v : AV} {l : List Nat} (o : OwnL h0 h v l) : IsL h v l := by
 rcases o.2.2.2 with x | ⟨b, h1, h2, h3⟩
 ·exact .inl x
 ·refine .inr ⟨b, _, h1, h3, fun i hi => ?_⟩
  rw [List.getElem?_map, List.getD_eq_getElem?_getD, List.getElem?_eq_getElem hi]; rfl
theorem takeN_all (l : List AV) : takeN l.length l = some l := by
 induction l with
 | nil => rfl
 | cons a l ih =>
  show ob (takeN l.length l) (fun r => some (a :: r)) = some (a :: l)
  rw [ih]; rfl
theorem cat_eq (a b : List AV) : cat a b = a ++ b := by
 induction a with
 | nil => rfl
 | cons x a ih => show x :: cat a b = _; rw [ih]; rfl
theorem lenL_eq' (a : List AV) : lenL a = a.length := by
 induction a with
 | nil => rfl
 | cons x a ih => show Nat.succ (lenL a) = _; rw [ih]; rfl
theorem nth_eq' (l : List AV) : ∀ i, nth l i = l[i]? := by
 induction l with
 | nil => intro i; cases i <;> rfl
 | cons a l ih => intro i; cases i with
  | zero => rfl
  | succ i => exact ih i
theorem app_own {h0 h : HP} {v : AV} {l : List Nat} (o : OwnL h0 h v l) (x : Nat) (hl : l.length + 1 ≤ 100000000) :
  ∃ v' h', (∀ k, eff (.app 1 8 (.c v) (.c (.slice (HP.nxQ h) 0 1 (.exact 1)))) (HP.newQ h (.cells true [vI (Int.ofNat x)])) k = k v' h') ∧ OwnL h0 h' v' (l ++ [x]) ∧ (∀ c k, h.get c = some k → (∀ n, v ≠ .slice c 0 n (.spare 1)) → h'.get c = some k) ∧ (∀ c n, v' = .slice c 0 n (.spare 1) → (HP.nxQ h).toNat ≤ c.toNat) := by
 obtain ⟨w0, w, le, o⟩ := o
 have hs : srcCells 1 (.slice (HP.nxQ h) 0 1 (.exact 1)) (HP.newQ h (.cells true [vI (Int.ofNat x)])) = some (1, [vI (Int.ofNat x)]) := by
  show ob (HP.get (HP.newQ h (.cells true [vI (Int.ofNat x)])) (HP.nxQ h)) _ = _
  rw [get_new, if_pos rfl]; rfl
 have ew : Wf (HP.newQ h (.cells true [vI (Int.ofNat x)])) := w.new _
 have el : Le h0 (HP.newQ h (.cells true [vI (Int.ofNat x)])) := le.trans (Le.new w _)
 have key : ∀ v' h', appV 1 8 v 1 [vI (Int.ofNat x)] (HP.newQ h (.cells true [vI (Int.ofNat x)])) = some (v', h') →
   ∀ k, eff (.app 1 8 (.c v) (.c (.slice (HP.nxQ h) 0 1 (.exact 1)))) (HP.newQ h (.cells true [vI (Int.ofNat x)])) k = k v' h' := fun v' h' e k => by
  show obQ (ob (srcCells 1 (.slice (HP.nxQ h) 0 1 (.exact 1)) (HP.newQ h (.cells true [vI (Int.ofNat x)]))) fun nc => appV 1 8 v nc.1 nc.2 (HP.newQ h (.cells true [vI (Int.ofNat x)]))) (fun r => k r.1 r.2) = _
  rw [hs]
  show obQ (appV 1 8 v 1 [vI (Int.ofNat x)] (HP.newQ h (.cells true [vI (Int.ofNat x)]))) (fun r => k r.1 r.2) = _
  rw [e]; rfl
 rcases o with ⟨rfl, rfl⟩ | ⟨b, rfl, hb, hg⟩
 ·refine ⟨.slice (HP.nxQ (HP.newQ h (.cells true [vI (Int.ofNat x)]))) 0 1 (.spare 1), HP.newQ (HP.newQ h (.cells true [vI (Int.ofNat x)])) (.cells true [vI (Int.ofNat x)]), key _ _ ?_, ⟨w0, ew.new _, el.trans (Le.new ew _), .inr ⟨_, rfl, el.1, ?_⟩⟩, fun c k e _ => ?_, fun c n e => ?_⟩
  ·show (bif Nat.ble (Nat.mul 1 (Nat.add 8 1)) 1099511627776 then some (AV.slice (HP.nx (HP.newQ h (.cells true [vI (Int.ofNat x)]))) 0 1 (.spare 1), HP.new (HP.newQ h (.cells true [vI (Int.ofNat x)])) (.cells true [vI (Int.ofNat x)])) else none) = _
   rw [← HP.newQ_eq, ← HP.nxQ_eq]; rfl
  ·rw [get_new, if_pos rfl]; rfl
  ·exact (Le.new ew _).2 _ _ ((Le.new w _).2 _ _ e)
  ·injection e with e1; subst e1; rw [nx_new]; omega
 ·have hlt := w.lt hg
  have hne : b ≠ HP.nxQ h := fun e => by subst e; omega
  have hg1 : (HP.newQ h (.cells true [vI (Int.ofNat x)])).get b = some (.cells true (l.map iv)) := by rw [get_new, if_neg hne]; exact hg
  have hlt1 := ew.lt hg1
  have wp : Wf (HP.put (HP.newQ h (.cells true [vI (Int.ofNat x)])) b none) := ew.put b none hlt1
  refine ⟨.slice (HP.nxQ (HP.newQ h (.cells true [vI (Int.ofNat x)]))) 0 (l.length + 1) (.spare 1), HP.newQ (HP.put (HP.newQ h (.cells true [vI (Int.ofNat x)])) b none) (.cells true (l.map iv ++ [vI (Int.ofNat x)])), key _ _ ?_, ⟨w0, wp.new _, ⟨?_, fun c k e => ?_⟩, .inr ⟨HP.nxQ (HP.newQ h (.cells true [vI (Int.ofNat x)])), ?_, el.1, ?_⟩⟩, fun c k e hv => ?_, fun c n e => ?_⟩
  ·show ob (HP.get (HP.newQ h (.cells true [vI (Int.ofNat x)])) b) _ = _
   rw [hg1]
   show (bif Nat.ble 1 1 && Nat.ble (Nat.add 0 (Nat.mul (Nat.add l.length 1) 1)) (lenL (l.map iv)) then _ else bif Nat.ble (Nat.mul (Nat.add l.length 1) (Nat.add 8 1)) 1099511627776 && allOne [vI (Int.ofNat x)] then ob (takeN (Nat.mul l.length 1) (dropN 0 (l.map iv))) (fun old => some (AV.slice (HP.nx (HP.newQ h (.cells true [vI (Int.ofNat x)]))) 0 (Nat.add l.length 1) (.spare 1), HP.new (HP.put (HP.newQ h (.cells true [vI (Int.ofNat x)])) b none) (.cells true (cat old [vI (Int.ofNat x)])))) else none) = _
   have e1 : Nat.ble (Nat.add 0 (Nat.mul (Nat.add l.length 1) 1)) (lenL (l.map iv)) = false := by
    rw [lenL_eq', List.length_map]
    rw [Bool.eq_false_iff, Ne, Nat.ble_eq]
    show ¬ (0 + (l.length + 1) * 1 ≤ _); omega
   have e2 : Nat.ble (Nat.mul (Nat.add l.length 1) (Nat.add 8 1)) 1099511627776 = true := by
    rw [Nat.ble_eq]
    show (l.length + 1) * 9 ≤ _; omega
   have e3 : takeN (Nat.mul l.length 1) (dropN 0 (l.map iv)) = some (l.map iv) := by
    show takeN (l.length * 1) (l.map iv) = _
    rw [Nat.mul_one]
    have := takeN_all (l.map iv)
    rw [List.length_map] at this; exact this
   rw [e1, e2, e3]
   show some (AV.slice (HP.nx _) 0 (Nat.add l.length 1) (.spare 1), HP.new _ (.cells true (cat (l.map iv) [vI (Int.ofNat x)]))) = _
   rw [cat_eq, HP.newQ_eq (HP.put _ _ _), HP.nxQ_eq]
  ·rw [nx_new, nx_put]; exact Nat.le_trans el.1 (Nat.le_succ _)
  ·have := w0.lt e
   have h1 := el.2 _ _ e
   have h2 := ew.lt h1
   rw [get_new, nx_put, if_neg (fun q => by subst q; omega), get_put, if_neg (fun q => by subst q; omega)]
   exact h1
  ·rw [List.length_append]; rfl
  ·rw [get_new, nx_put, if_pos rfl, List.map_append]; rfl
  ·have h1 := (Le.new w (.cells true [vI (Int.ofNat x)])).2 _ _ e
   have h2 := ew.lt h1
   rw [get_new, nx_put, if_neg (fun q => by subst q; omega), get_put, if_neg (fun q => by subst q; exact hv _ rfl)]
   exact h1
  ·injection e with e1; subst e1; rw [nx_new]; omega
/-- An element is loaded, now or when more was made. -/
theorem load_of {h : HP} {v : AV} {l : List Nat} (x : IsL h v l) (i : Nat) (hi : i < l.length) :
  ∃ p, (∀ F, iasC 1 v (vI (Int.ofNat i)) F = F p) ∧ (∀ F, iasCV 1 v (vI (Int.ofNat i)) F = F p) ∧ ∀ h', Le h h' → ((∀ F, ldI p h' F = F (Int.ofNat (l.getD i 0))) ∧ (∀ F, ldIV p h' F = F (Int.ofNat (l.getD i 0))) ∧ cellV p h' = some (iv (l.getD i 0))) := by
 rcases x with ⟨rfl, rfl⟩ | ⟨b, vs, rfl, hg, hv⟩
 ·simp at hi
 ·have e : Nat.ble (Nat.succ i) l.length = true := by rw [Nat.ble_eq]; exact hi
  refine ⟨.ptr b (Nat.add 0 (Nat.mul i 1)), fun F => ?_, fun F => ?_, fun h' le => ?_⟩
  ·show (Bool.rec none (F (.ptr b (Nat.add 0 (Nat.mul i 1)))) (Nat.ble (Nat.succ i) l.length) : Res2) = _
   rw [e]
  ·show (Bool.rec none (F (.ptr b (Nat.add 0 (Nat.mul i 1)))) (Nat.ble (Nat.succ i) l.length) : Option AV) = _
   rw [e]
  ·have hc : cellV (.ptr b (Nat.add 0 (Nat.mul i 1))) h' = some (iv (l.getD i 0)) := by
    show ob (HP.get h' b) _ = _
    rw [le.2 _ _ hg]
    show nth vs (0 + i * 1) = _
    rw [Nat.zero_add, Nat.mul_one, nth_eq', hv i hi]
   refine ⟨fun F => ?_, fun F => ?_, hc⟩
   ·show cellC _ _ _ = _
    rw [cellC_eq, hc]; rfl
   ·show cellCV _ _ _ = _
    rw [cellCV_eq, hc]; rfl
end
end Go.Proofs.YtakcpnpeadkfpaaGreatDoor.Lg
