/- SemWords: the document's operation, the program's, and its comparison as functions that always answer, at words of which nothing is known. -/
import Derived.Test.YtblciblkocameaaGreatWd
set_option linter.unusedVariables false
set_option linter.unusedSimpArgs false
namespace Go.Proofs.YtblciblkocameaaGreat.Sx
open Go Go.Proofs.YtblciblkocameaaGreat.Ev
set_option linter.unusedSectionVars false
noncomputable section
/-- The two words of the input, and what the operation makes of them. -/
def isTok (i j : Nat) : Bool := Bool.rec false (Nat.beq j 1) (Nat.beq i 0)
def doT (code : Nat) (w : Int) (B : Bool) (xs : List AV) : Option AV :=
  match xs with
  | [.int .i64 (.ofNat op), .int .u32 (.negSucc i), .int .u32 (.negSucc j)] => Bool.rec none (some (.tup [vW w, vB B])) (Bool.rec false (isTok i j) (Nat.beq op code))
  | _ => none
def wdT (code : Nat) (xs : List AV) : Option AV :=
  match xs with
  | [.int .i64 (.ofNat op), .int .u32 (.negSucc i), .int .u32 (.negSucc j)] => Bool.rec none (some (.tup [vW (.negSucc 2), vI (Int.ofNat 0)])) (Bool.rec false (isTok i j) (Nat.beq op code))
  | [.int .i64 (.ofNat op), .int .u32 (.ofNat a), .int .u32 (.ofNat b)] => Bool.rec none (some (.tup [vW (wrQ .u32 (addQ (Int.ofNat a) (Int.ofNat b))), vI (Int.ofNat 0)])) (Nat.beq op 1)
  | _ => none
def resP (r : Res2) : Option (AV × HP) := match r with | some (.ret v h, .no) => some (v, h) | _ => none
theorem resP_ok {r : Res2} {x : AV × HP} (h : resP r = some x) : r = some (.ret x.1 x.2, .no) := by
  unfold resP at h
  split at h
  · obtain rfl := Option.some.inj h; rfl
  · simp at h
/-- The comparison of two words is that of 0 and 1, or of 1 and 0. -/
def lsT (t : Bool) (xs : List AV) (h : HP) : Option (AV × HP) :=
  match xs with
  | [.str l, .int .u32 (.negSucc i), .int .u32 (.negSucc j)] => Bool.rec none (resP (SF tabS 60 155 [vS [60], vW (Bool.rec (Int.ofNat 1) (Int.ofNat 0) t), vW (Bool.rec (Int.ofNat 0) (Int.ofNat 1) t)] h .no)) (Bool.rec false (isTok i j) (eqL l [60]))
  | [.str l, .int .u32 (.ofNat a), .int .u32 (.ofNat b)] => resP (SF tabS 60 155 [.str l, vW (Int.ofNat a), vW (Int.ofNat b)] h .no)
  | _ => none
theorem isTok_eq {i j : Nat} (h : isTok i j = true) : i = 0 ∧ j = 1 := by
  unfold isTok at h
  cases hi : Nat.beq i 0 with
  | false => rw [hi] at h; exact Bool.noConfusion (show false = true from h)
  | true => rw [hi] at h; exact ⟨Nat.eq_of_beq_eq_true hi, Nat.eq_of_beq_eq_true (show Nat.beq j 1 = true from h)⟩
theorem and_rec {a b : Bool} (h : (Bool.rec false b a : Bool) = true) : a = true ∧ b = true := by
  cases a with
  | false => exact Bool.noConfusion (show false = true from h)
  | true => exact ⟨rfl, h⟩
theorem rec_some {α : Type} {c : Bool} {x y : α} (h : (Bool.rec none (some x) c : Option α) = some y) : c = true ∧ x = y := by
  cases c with
  | false => exact absurd (show (none : Option α) = some y from h) (by simp)
  | true => exact ⟨rfl, Option.some.inj h⟩
theorem rec_some' {α : Type} {c : Bool} {x : Option α} {y : α} (h : (Bool.rec none x c : Option α) = some y) : c = true ∧ x = some y := by
  cases c with
  | false => exact absurd (show (none : Option α) = some y from h) (by simp)
  | true => exact ⟨rfl, h⟩
variable [Rho]
theorem do_run (op a b : Nat) (h : HP) : SF tabS 60 18 [vI (Int.ofNat op), vW (Int.ofNat a), vW (Int.ofNat b)] h .no = some (.ret (.tup [vW (doW op a b), vB (doB op a b)]) h, .no) := do_pr _ _ h rfl
theorem tup_tok {φ : Phi} {x : Value} {n i : Nat} {c : AV} (hn : n = Rho.r i) (h : RV φ x (.tup [vW (Int.ofNat n), c])) : RV φ x (.tup [vW (.negSucc i), c]) := by
  cases h with
  | tup vs _ h =>
    refine .tup vs _ ?_
    cases h' : vs.toList with
    | nil => rw [h'] at h; cases h
    | cons v l =>
      rw [h'] at h
      cases h with
      | cons _ _ _ _ h1 h2 => exact .cons _ _ _ _ (h1.toT hn) h2
theorem doT_pr {code : Nat} {B : Bool} (hB : doB code (Rho.r 0) (Rho.r 1) = B) {w : Int} (hw : (w = .negSucc 2 ∧ doW code (Rho.r 0) (Rho.r 1) = Int.ofNat (Rho.r 2)) ∨ w = doW code (Rho.r 0) (Rho.r 1)) (xs : List AV) (v : AV) (h : HP) (hp : doT code w B xs = some v) :
    ∃ v', SF tabS 60 18 (xs.map resT) h .no = some (.ret v' h, .no) ∧ ∀ φ x, RV φ x v' → RV φ x v := by
  unfold doT at hp
  split at hp
  · rename_i op i j
    obtain ⟨hc, rfl⟩ := rec_some hp
    obtain ⟨ho, ht⟩ := and_rec hc
    obtain rfl := Nat.eq_of_beq_eq_true ho
    obtain ⟨rfl, rfl⟩ := isTok_eq ht
    refine ⟨_, do_run op (Rho.r 0) (Rho.r 1) h, fun φ x hx => ?_⟩
    rw [hB] at hx
    rcases hw with ⟨rfl, h2⟩ | rfl
    · rw [h2] at hx
      exact tup_tok rfl hx
    · exact hx
  · simp at hp
theorem wdT_pr {code : Nat} (hk : code ∈ [1, 2, 3, 6, 8, 9, 10, 11, 14, 16]) (h2 : doW code (Rho.r 0) (Rho.r 1) = Int.ofNat (Rho.r 2)) (xs : List AV) (v : AV) (h : HP) (hr : ∀ n : Nat, AV.int .u32 (.ofNat n) ∈ xs.map resT → n ≤ 4294967295) (hp : wdT code xs = some v) :
    ∃ v', SF tabS 60 179 (xs.map resT) h .no = some (.ret v' h, .no) ∧ ∀ φ x, RV φ x v' → RV φ x v := by
  unfold wdT at hp
  split at hp
  · rename_i op i j
    obtain ⟨hc, rfl⟩ := rec_some hp
    obtain ⟨ho, ht⟩ := and_rec hc
    obtain rfl := Nat.eq_of_beq_eq_true ho
    obtain ⟨rfl, rfl⟩ := isTok_eq ht
    have l0 := Rho.lt 0
    have l1 := Rho.lt 1
    refine ⟨_, wd_ok op (Rho.r 0) (Rho.r 1) hk (by omega) (by omega) h, fun φ x hx => ?_⟩
    rw [h2] at hx
    exact tup_tok rfl hx
  · rename_i op a b
    obtain ⟨ho, rfl⟩ := rec_some hp
    obtain rfl := Nat.eq_of_beq_eq_true ho
    have ha := hr a (by simp [resT])
    have hb := hr b (by simp [resT])
    refine ⟨_, wd_ok 1 a b (by decide) (by omega) (by omega) h, fun φ x hx => ?_⟩
    rw [← c1 (by omega) (by omega)] at hx
    exact hx
  · simp at hp
/- The comparison. -/
theorem obQ_s {α : Type} (x : α) (f : α → Res2) : obQ (some x) f = f x := rfl
theorem eff_ms {nx b : Pos} {m : T (Option Blk)} {es : List (AV × AV)} {n : Nat} {k : LN} {v : AV} {f : AV → HP → Res2} :
    eff (.mset .str (.c (.map b)) (.c (vS k)) (.c v)) ⟨nx, T.set (some (.map es n)) b m⟩ f = obQ (setM .str (vS k) v es) fun r => f (.tup []) ⟨nx, T.set (some (.map r (Nat.add n (Nat.sub (lenL r) (lenL es))))) b (T.set (some (.map es n)) b m)⟩ := by
  show obQ (ob (ob (ob (T.get b (T.set (some (.map es n)) b m)) fun o => o) _) _) _ = _
  rw [T.get_set_same]
  show obQ (ob (ob (setM .str (vS k) v es) _) _) _ = _
  cases setM .str (vS k) v es <;> rfl
theorem look_ms {nx b : Pos} {m : T (Option Blk)} {es : List (AV × AV)} {n : Nat} {k : LN} {z : AV} : evL (.look .str z false (.c (.map b)) (.c (vS k))) .leaf ⟨nx, T.set (some (.map es n)) b m⟩ = ob (findM .str (vS k) es) fun r => some (lookR false z r) := by
  show ob (ob (ob (T.get b (T.set (some (.map es n)) b m)) fun o => o) _) _ = _
  rw [T.get_set_same]; rfl
theorem ops_ok (h : HP) : ∃ h' : HP, ∀ (D : CallD) (m : Nat), S178 D m [vS [60]] h .no = some (.ret (vI (Int.ofNat 0)) h', .no) := by
  obtain ⟨nx, t⟩ := h
  refine ⟨?_, fun D m => ?_⟩
  rotate_left
  · show S178_0 D m [60] ⟨nx, t⟩ = _
    unfold S178_0
    simp only [show HP.nxQ ⟨nx, t⟩ = nx from rfl]
    show eff (.mset .str (.c (.map nx)) _ _) ⟨Pos.succ nx, T.set (some (.map [] 0)) nx t⟩ _ = _
    rw [eff_ms, show setM .str (vS ([43] : LN)) (vI (Int.ofNat 1)) [] = some [(vS ([43] : LN), vI (Int.ofNat 1))] from rfl, obQ_s]
    rw [eff_ms, show setM .str (vS ([45] : LN)) (vI (Int.ofNat 2)) [(vS ([43] : LN), vI (Int.ofNat 1))] = some [(vS ([43] : LN), vI (Int.ofNat 1)), (vS ([45] : LN), vI (Int.ofNat 2))] from rfl, obQ_s]
    rw [eff_ms, show setM .str (vS ([42] : LN)) (vI (Int.ofNat 11)) [(vS ([43] : LN), vI (Int.ofNat 1)), (vS ([45] : LN), vI (Int.ofNat 2))] = some [(vS ([43] : LN), vI (Int.ofNat 1)), (vS ([45] : LN), vI (Int.ofNat 2)), (vS ([42] : LN), vI (Int.ofNat 11))] from rfl, obQ_s]
    rw [eff_ms, show setM .str (vS ([47] : LN)) (vI (Int.ofNat 14)) [(vS ([43] : LN), vI (Int.ofNat 1)), (vS ([45] : LN), vI (Int.ofNat 2)), (vS ([42] : LN), vI (Int.ofNat 11))] = some [(vS ([43] : LN), vI (Int.ofNat 1)), (vS ([45] : LN), vI (Int.ofNat 2)), (vS ([42] : LN), vI (Int.ofNat 11)), (vS ([47] : LN), vI (Int.ofNat 14))] from rfl, obQ_s]
    rw [eff_ms, show setM .str (vS ([37] : LN)) (vI (Int.ofNat 16)) [(vS ([43] : LN), vI (Int.ofNat 1)), (vS ([45] : LN), vI (Int.ofNat 2)), (vS ([42] : LN), vI (Int.ofNat 11)), (vS ([47] : LN), vI (Int.ofNat 14))] = some [(vS ([43] : LN), vI (Int.ofNat 1)), (vS ([45] : LN), vI (Int.ofNat 2)), (vS ([42] : LN), vI (Int.ofNat 11)), (vS ([47] : LN), vI (Int.ofNat 14)), (vS ([37] : LN), vI (Int.ofNat 16))] from rfl, obQ_s]
    rw [eff_ms, show setM .str (vS ([60, 60] : LN)) (vI (Int.ofNat 3)) [(vS ([43] : LN), vI (Int.ofNat 1)), (vS ([45] : LN), vI (Int.ofNat 2)), (vS ([42] : LN), vI (Int.ofNat 11)), (vS ([47] : LN), vI (Int.ofNat 14)), (vS ([37] : LN), vI (Int.ofNat 16))] = some [(vS ([43] : LN), vI (Int.ofNat 1)), (vS ([45] : LN), vI (Int.ofNat 2)), (vS ([42] : LN), vI (Int.ofNat 11)), (vS ([47] : LN), vI (Int.ofNat 14)), (vS ([37] : LN), vI (Int.ofNat 16)), (vS ([60, 60] : LN), vI (Int.ofNat 3))] from rfl, obQ_s]
    rw [eff_ms, show setM .str (vS ([62, 62] : LN)) (vI (Int.ofNat 8)) [(vS ([43] : LN), vI (Int.ofNat 1)), (vS ([45] : LN), vI (Int.ofNat 2)), (vS ([42] : LN), vI (Int.ofNat 11)), (vS ([47] : LN), vI (Int.ofNat 14)), (vS ([37] : LN), vI (Int.ofNat 16)), (vS ([60, 60] : LN), vI (Int.ofNat 3))] = some [(vS ([43] : LN), vI (Int.ofNat 1)), (vS ([45] : LN), vI (Int.ofNat 2)), (vS ([42] : LN), vI (Int.ofNat 11)), (vS ([47] : LN), vI (Int.ofNat 14)), (vS ([37] : LN), vI (Int.ofNat 16)), (vS ([60, 60] : LN), vI (Int.ofNat 3)), (vS ([62, 62] : LN), vI (Int.ofNat 8))] from rfl, obQ_s]
    rw [eff_ms, show setM .str (vS ([38] : LN)) (vI (Int.ofNat 10)) [(vS ([43] : LN), vI (Int.ofNat 1)), (vS ([45] : LN), vI (Int.ofNat 2)), (vS ([42] : LN), vI (Int.ofNat 11)), (vS ([47] : LN), vI (Int.ofNat 14)), (vS ([37] : LN), vI (Int.ofNat 16)), (vS ([60, 60] : LN), vI (Int.ofNat 3)), (vS ([62, 62] : LN), vI (Int.ofNat 8))] = some [(vS ([43] : LN), vI (Int.ofNat 1)), (vS ([45] : LN), vI (Int.ofNat 2)), (vS ([42] : LN), vI (Int.ofNat 11)), (vS ([47] : LN), vI (Int.ofNat 14)), (vS ([37] : LN), vI (Int.ofNat 16)), (vS ([60, 60] : LN), vI (Int.ofNat 3)), (vS ([62, 62] : LN), vI (Int.ofNat 8)), (vS ([38] : LN), vI (Int.ofNat 10))] from rfl, obQ_s]
    rw [eff_ms, show setM .str (vS ([94] : LN)) (vI (Int.ofNat 6)) [(vS ([43] : LN), vI (Int.ofNat 1)), (vS ([45] : LN), vI (Int.ofNat 2)), (vS ([42] : LN), vI (Int.ofNat 11)), (vS ([47] : LN), vI (Int.ofNat 14)), (vS ([37] : LN), vI (Int.ofNat 16)), (vS ([60, 60] : LN), vI (Int.ofNat 3)), (vS ([62, 62] : LN), vI (Int.ofNat 8)), (vS ([38] : LN), vI (Int.ofNat 10))] = some [(vS ([43] : LN), vI (Int.ofNat 1)), (vS ([45] : LN), vI (Int.ofNat 2)), (vS ([42] : LN), vI (Int.ofNat 11)), (vS ([47] : LN), vI (Int.ofNat 14)), (vS ([37] : LN), vI (Int.ofNat 16)), (vS ([60, 60] : LN), vI (Int.ofNat 3)), (vS ([62, 62] : LN), vI (Int.ofNat 8)), (vS ([38] : LN), vI (Int.ofNat 10)), (vS ([94] : LN), vI (Int.ofNat 6))] from rfl, obQ_s]
    rw [eff_ms, show setM .str (vS ([124] : LN)) (vI (Int.ofNat 9)) [(vS ([43] : LN), vI (Int.ofNat 1)), (vS ([45] : LN), vI (Int.ofNat 2)), (vS ([42] : LN), vI (Int.ofNat 11)), (vS ([47] : LN), vI (Int.ofNat 14)), (vS ([37] : LN), vI (Int.ofNat 16)), (vS ([60, 60] : LN), vI (Int.ofNat 3)), (vS ([62, 62] : LN), vI (Int.ofNat 8)), (vS ([38] : LN), vI (Int.ofNat 10)), (vS ([94] : LN), vI (Int.ofNat 6))] = some [(vS ([43] : LN), vI (Int.ofNat 1)), (vS ([45] : LN), vI (Int.ofNat 2)), (vS ([42] : LN), vI (Int.ofNat 11)), (vS ([47] : LN), vI (Int.ofNat 14)), (vS ([37] : LN), vI (Int.ofNat 16)), (vS ([60, 60] : LN), vI (Int.ofNat 3)), (vS ([62, 62] : LN), vI (Int.ofNat 8)), (vS ([38] : LN), vI (Int.ofNat 10)), (vS ([94] : LN), vI (Int.ofNat 6)), (vS ([124] : LN), vI (Int.ofNat 9))] from rfl, obQ_s]
    rw [look_ms]
    rfl
def s157 (a : Int) : Int := wrapF .i64 (wrapF .i32 a)
theorem sg157 (n a : Nat) (h : HP) (kr : AV → HP → Res2) : cal (SF tabS (n + 1)) 157 [vW (Int.ofNat a)] h kr = kr (vI (s157 (Int.ofNat a))) h := cal_of (by
  show S157_0 (SF tabS n) n (Int.ofNat a) h = _
  unfold S157_0; simp only [cvN, obI_k]; rfl)
theorem ls_same (a b c d : Nat) (he : ltQ (s157 (Int.ofNat a)) (s157 (Int.ofNat b)) = ltQ (s157 (Int.ofNat c)) (s157 (Int.ofNat d))) (h : HP) :
    SF tabS 60 155 [vS [60], vW (Int.ofNat a), vW (Int.ofNat b)] h .no = SF tabS 60 155 [vS [60], vW (Int.ofNat c), vW (Int.ofNat d)] h .no := by
  obtain ⟨h', hH⟩ := ops_ok (HP.newQ h (.cells true [(kI 0), (.int .u32 (.ofNat 0)), (.int .u64 (.ofNat 0)), (.str []), (kI 0)]))
  have h178 : ∀ (kr : AV → HP → Res2), cal (SF tabS 59) 178 [vS [60]] (HP.newQ h (.cells true [(kI 0), (.int .u32 (.ofNat 0)), (.int .u64 (.ofNat 0)), (.str []), (kI 0)])) kr = kr (vI (Int.ofNat 0)) h' := fun kr => by
    unfold cal calC
    rw [show SF tabS 59 178 [vS [60]] (HP.newQ h (.cells true [(kI 0), (.int .u32 (.ofNat 0)), (.int .u64 (.ofNat 0)), (.str []), (kI 0)])) .no = some (.ret (vI (Int.ofNat 0)) h', .no) from hH (SF tabS 58) 58]
    rfl
  have key : ∀ a b : Nat, SF tabS 60 155 [vS [60], vW (Int.ofNat a), vW (Int.ofNat b)] h .no = (fun t6 h6 => cal (SF tabS 59) 156 [(vB (ltQ (s157 (Int.ofNat a)) (s157 (Int.ofNat b))))] h6 fun t49 h11 =>
      stsC 5 t6 t49 h11 fun h12 => cellsC 5 t6 h12 fun t6a => some (.ret (.tup [t6a, (vI (Int.ofNat 0))]) h12, .no)) (AV.ptr (HP.nxQ h) 0) h' := by
    intro a b
    show S155_0 (SF tabS 59) 59 [60] (Int.ofNat a) (Int.ofNat b) h = _
    unfold S155_0
    simp only [h178, asI_vI]
    show cal (SF tabS 59) 157 [vW (Int.ofNat a)] _ _ = _
    rw [sg157 58]
    show cal (SF tabS 59) 157 [vW (Int.ofNat b)] _ _ = _
    rw [sg157 58]
    rfl
  rw [key, key, he]
theorem lsT_pr {t : Bool} (ht : ltQ (s157 (Int.ofNat (Rho.r 0))) (s157 (Int.ofNat (Rho.r 1))) = t) (xs : List AV) (h : HP) (r : AV × HP) (hp : lsT t xs h = some r) : SF tabS 60 155 (xs.map resT) h .no = some (.ret r.1 r.2, .no) := by
  unfold lsT at hp
  split at hp
  · rename_i l i j
    obtain ⟨hc, hq⟩ := rec_some' hp
    obtain ⟨hl, hk⟩ := and_rec hc
    obtain ⟨rfl, rfl⟩ := isTok_eq hk
    rw [eqL_eq, decide_eq_true_eq] at hl
    subst hl
    have e := resP_ok hq
    cases t with
    | true => exact (ls_same (Rho.r 0) (Rho.r 1) 0 1 (by rw [ht]; rfl) h).trans e
    | false => exact (ls_same (Rho.r 0) (Rho.r 1) 1 0 (by rw [ht]; rfl) h).trans e
  · exact resP_ok hp
  · simp at hp
def tabV (code : Nat) (B : Bool) : ST := .node 17 tabS (.node 18 (.pr 18 (noH (doT code (.negSucc 2) B))) (.node 178 tabS (.node 179 (.pr 179 (noH (wdT code))) tabS)))
theorem okV {code : Nat} {B : Bool} (hB : doB code (Rho.r 0) (Rho.r 1) = B) (hk : code ∈ [1, 2, 3, 6, 8, 9, 10, 11, 14, 16]) (h2 : doW code (Rho.r 0) (Rho.r 1) = Int.ofNat (Rho.r 2)) : ST.Ok Tryz.prog (tabV code B) :=
  .node _ _ _ okS (.node _ _ _ (.pr _ _ fun w0 => pr_tok (by kernel_rfl) okS (n := 60) ⟨_, Tryz.func18, by kernel_rfl, by decide +kernel⟩ (fun xs v h _ hp => doT_pr hB (.inl ⟨rfl, h2⟩) xs v h hp) w0)
    (.node _ _ _ okS (.node _ _ _ (.pr _ _ fun w0 => pr_tok (by kernel_rfl) okS (n := 60) ⟨_, Tryz.func179, by kernel_rfl, by decide +kernel⟩ (fun xs v h hr hp => wdT_pr hk h2 xs v h hr hp) w0) okS)))
def tabL (t : Bool) (B : Bool) : ST := .node 17 tabS (.node 18 (.pr 18 (noH (doT 4 (Bool.rec (Int.ofNat 0) (Int.ofNat 1) t) B))) (.node 154 tabS (.node 155 (.pr 155 (lsT t)) tabS)))
theorem okL {t : Bool} {B : Bool} (hB : doB 4 (Rho.r 0) (Rho.r 1) = B) (ht : ltQ (s157 (Int.ofNat (Rho.r 0))) (s157 (Int.ofNat (Rho.r 1))) = t) (hw : (Bool.rec (Int.ofNat 0) (Int.ofNat 1) t : Int) = doW 4 (Rho.r 0) (Rho.r 1)) : ST.Ok Tryz.prog (tabL t B) :=
  .node _ _ _ okS (.node _ _ _ (.pr _ _ fun w0 => pr_tok (by kernel_rfl) okS (n := 60) ⟨_, Tryz.func18, by kernel_rfl, by decide +kernel⟩ (fun xs v h _ hp => doT_pr hB (.inr hw) xs v h hp) w0)
    (.node _ _ _ okS (.node _ _ _ (.pr _ _ fun w0 => pr_res (by kernel_rfl) okS (n := 60) ⟨_, Tryz.func155, by kernel_rfl, by decide +kernel⟩ (fun xs h r hp => lsT_pr ht xs h r hp) w0) okS)))
/- The law. -/
theorem tmod11 (n : Nat) : Int.tmod (Int.ofNat n) (Int.ofNat 11) = Int.ofNat (n % 11) := rfl
theorem modW (D : CallD) (m x : Nat) (a b : Int) (h : HP) : S4_0 D m (.ofNat (x % 11)) a b h = S4_0 D m (.ofNat x) a b h := by
  unfold S4_0; simp only [tmod11, Nat.mod_mod]
def oV (t : ST) (c : Nat) : Bool := isTrue (S4_0 (SF t 999) 999 (Int.ofNat c) (.negSucc 0) (.negSucc 1) ⟨.h, .leaf⟩)
end
end Go.Proofs.YtblciblkocameaaGreat.Sx
