/- LexNumbers: the token of a row of digits; the lexer as a function with known answers; the law's printed function. -/
import Derived.Test.YtlfhnopganplfaaGreatDoorLc
set_option linter.unusedVariables false
set_option linter.unusedSimpArgs false
set_option linter.unusedSectionVars false
set_option maxRecDepth 20000
namespace Go.Proofs.YtlfhnopganplfaaGreatDoor.Lx
open Go Go.Proofs.YtlfhnopganplfaaGreatDoor.Ev Go.Proofs.YtlfhnopganplfaaGreatDoor.Sx
noncomputable section
theorem find_token : tabA.run 11 = S11 := by kernel_rfl
abbrev bx (h : HP) : HP := HP.newQ h (.cells true [(kI 0), (.str []), (kI 0)])
theorem tok_num {c k n : Nat} {s l : LN} {h h' : HP} (e : s = c :: l) (hc : 48 ≤ c ∧ c ≤ 57) (num : SF tabA 898 21 [.str s] (bx h) .no = some (.ret (.tup [iv k, iv n]) h', .no)) :
    SF tabA 899 11 [.str s, iv 0] h .no = S11_0 (SF tabA 898) 898 (Int.ofNat 0) (AV.ptr (HP.nxQ h) 0) s (Int.ofNat k) (Int.ofNat n) h' := by
  rw [SF_succ, find_token]
  show S11_4 (SF tabA 898) 898 s (Int.ofNat 0) h = _
  unfold S11_4
  dsimp only
  refine (slC_lo (Nat.zero_le _) _).trans ?_
  rw [List.drop_zero]
  subst e
  refine (asS_s _ _).trans ?_
  refine (ixC_s (c := c) (i := 0) rfl _).trans ?_
  refine (asI_b _ _).trans ?_
  refine (cal_of (let_dig hc 897 _) _).trans ?_
  refine (asB_b _ _).trans ?_
  refine (br_f _ _).trans ?_
  refine (cal_of (dig_dig hc 897 _) _).trans ?_
  refine (asB_b _ _).trans ?_
  refine (br_t _ _).trans ?_
  refine (cal_of num _).trans ?_
  rfl
section
variable (m : Int)
theorem tok_end (K : Nat) (s : LN) (F : AV → HP → Res2) : (stsC 3 (AV.ptr (HP.nxQ (hB m)) 0) (tokV K s) (bx (hB m)) fun h6 => cellsC 3 (AV.ptr (HP.nxQ (hB m)) 0) h6 fun t4a => F t4a h6) = F (tokV K s) (hT m K s) := by kernel_rfl
theorem tok_fin {K : Nat} (hK : K ≠ 0) (s : LN) (D : CallD) (M : Nat) : S11_0 D M (Int.ofNat 0) (AV.ptr (HP.nxQ (hB m)) 0) s (Int.ofNat K) (Int.ofNat s.length) (bx (hB m)) = some (.ret (tokV K s) (hT m K s), .no) := by
  unfold S11_0
  dsimp only
  rw [eq_nat, decide_eq_false hK, br_f]
  unfold S11_1
  dsimp only
  refine (slC_hi (Nat.le_refl _) _).trans ?_
  rw [List.take_length]
  refine (asS_s _ _).trans ?_
  exact tok_end m K s fun v h => some (.ret v h, .no)
abbrev chX : Chain := [(.iface 36 (.agg [iv 0, iv 10]), false)]
theorem tok_pan (s : LN) (n : Nat) (D : CallD) (M : Nat) (h h' : HP) : S11_0 D M (Int.ofNat 0) (AV.ptr (HP.nxQ h) 0) s (Int.ofNat 0) (Int.ofNat n) h' = some (.pan chX h', .no) := by kernel_rfl
/- Rows of digits. -/
def NumOk (s : LN) : Prop := Digs s ∧ s ≠ [] ∧ s.length ≤ 10 ∧ vlA s 0 ≤ 4294967295
def NumBad (s : LN) : Prop := Digs s ∧ s ≠ [] ∧ s.length ≤ 100 ∧ 4294967295 < vlA s 0
abbrev okV (K : Nat) (s : LN) : List AV := [iv K, .str s, iv 0, iv 0, .str [], iv s.length]
def okA' (K : Nat) (s : LN) (h : HP) : AV × HP := (.tup [.slice (HP.nxQ h) 0 2 (.spare 3), iv 0, iv 0], HP.newQ h (.cells true (okV K s)))
theorem emb_ok (K : Nat) (s : LN) (h : HP) : emb h (.tup [.slice .h 0 2 (.spare 3), iv 0, iv 0]) [.cells true (okV K s)] = some (okA' K s h) := by
  unfold okA'
  rw [HP.newQ_eq, HP.nxQ_eq]
  rfl
theorem emb_er (h : HP) : emb h (.tup [.nils, iv 0, iv 10]) [] = some (.tup [.nils, iv 0, iv 10], h) := rfl
theorem lex_num {s : LN} (q : NumOk s) : gc [kX m 2 s s.length] (SF tabA 900 7 [.str s] (gH m) .no) = some (.tup [.slice .h 0 2 (.spare 3), iv 0, iv 0], [.cells true (okV 2 s)]) := by
  obtain ⟨q1, q2, q3, q4⟩ := q
  obtain ⟨c, l, e⟩ : ∃ c l, s = c :: l := by cases s with | nil => exact absurd rfl q2 | cons c l => exact ⟨c, l, rfl⟩
  have hc := q1 c (by rw [e]; simp)
  refine lex_ok m e (by omega) (fun h => gap_stay (n := 897) (by rw [e]; simp) (by rw [e]; rfl) (still_dig hc l 888) h) (fun h => gap_end s h) ?_
  rw [tok_num e hc (num_ok (n := 895) q1 q2 q4 q3 (by omega) (by omega) _)]
  exact tok_fin m (by decide) s _ _
theorem lex_nub {s : LN} (q : NumBad s) : gc [] (SF tabA 900 7 [.str s] (gH m) .no) = some (.tup [.nils, iv 0, iv 10], []) := by
  obtain ⟨q1, q2, q3, q4⟩ := q
  obtain ⟨c, l, e⟩ : ∃ c l, s = c :: l := by cases s with | nil => exact absurd rfl q2 | cons c l => exact ⟨c, l, rfl⟩
  have hc := q1 c (by rw [e]; simp)
  refine lex_bad m (ch := chX) (hp := HP.newQ (bx (hB m)) (.cells false [])) e (by omega) (fun h => gap_stay (n := 897) (by rw [e]; simp) (by rw [e]; rfl) (still_dig hc l 888) h) ?_ (by kernel_rfl)
  rw [tok_num e hc (num_bad (n := 895) q1 q2 q4 (by omega) (by omega) (by omega) _)]
  exact tok_pan s 0 _ _ _ _
end
def lexN (xs : List AV) (h : HP) : Option (AV × HP) := match xs with
  | [.str s] => @ite _ (NumOk s) (Classical.propDecidable _) (some (okA' 2 s h)) (@ite _ (NumBad s) (Classical.propDecidable _) (some (.tup [.nils, iv 0, iv 10], h)) none)
  | _ => none
def tabN : ST := .node 6 tabA (.node 7 (.pr 7 lexN) tabA)
theorem okN (m : Int) (lf : Ev.VL) : letI := rhoV m lf rfl; ST.Ok Tryz.prog tabN := by
  letI := rhoV m lf rfl
  refine .node _ _ _ (okA m lf) (.node _ _ _ (.pr _ _ fun w0 => pr_gc (n := 900) (by kernel_rfl) (okA m lf) ⟨_, Tryz.func7, by kernel_rfl, by decide +kernel⟩ (fun xs h x hx => ?_) w0) (okA m lf))
  unfold lexN at hx
  split at hx
  · rename_i s
    by_cases q : NumOk s
    · rw [if_pos q] at hx
      exact ⟨rfl, _, _, _, rfl, lex_num m q, (emb_ok 2 s h).trans hx⟩
    · rw [if_neg q] at hx
      by_cases q2 : NumBad s
      · rw [if_pos q2] at hx
        exact ⟨rfl, _, _, _, rfl, lex_nub m q2, (emb_er h).trans hx⟩
      · rw [if_neg q2] at hx; simp at hx
  · simp at hx
theorem lexN_ok {n : Nat} {s : LN} (q : NumOk s) (h : HP) : SF tabN (n + 1) 7 [.str s] h .no = some (.ret (okA' 2 s h).1 (okA' 2 s h).2, .no) := by
  have e : SF tabN (n + 1) 7 [.str s] h .no = ob (lexN [.str s] h) fun r => some (.ret r.1 r.2, .no) := by kernel_rfl
  rw [e]
  unfold lexN
  dsimp only
  rw [if_pos q]
  rfl
theorem lexN_er {n : Nat} {s : LN} (q : NumBad s) (h : HP) : SF tabN (n + 1) 7 [.str s] h .no = some (.ret (.tup [.nils, iv 0, iv 10]) h, .no) := by
  have e : SF tabN (n + 1) 7 [.str s] h .no = ob (lexN [.str s] h) fun r => some (.ret r.1 r.2, .no) := by kernel_rfl
  rw [e]
  unfold lexN
  dsimp only
  rw [if_neg (fun q' => by have := q'.2.2.2; have := q.2.2.2; omega), if_pos q]
  rfl
end
end Go.Proofs.YtlfhnopganplfaaGreatDoor.Lx
