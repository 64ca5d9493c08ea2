/- LexMany: gap and token at semicolons and blanks, as functions with known answers. -/
import Derived.Test.YtlfhnopganplfaaGreatDoorLf
set_option linter.unusedVariables false
set_option linter.unusedSimpArgs false
set_option linter.unusedSectionVars false
set_option maxRecDepth 20000
namespace Go.Proofs.YtlfhnopganplfaaGreatDoor.Lx
open Go Go.Proofs.YtlfhnopganplfaaGreatDoor.Ev Go.Proofs.YtlfhnopganplfaaGreatDoor.Sx
noncomputable section
theorem still_semi (l : LN) (n : Nat) : Still (n + 10) 59 l := by
  refine ⟨fun h => by kernel_rfl, fun h => ?_, fun h => ?_⟩
  · cases l with
    | nil => show @Eq Res2 _ _; kernel_rfl
    | cons d l => show @Eq Res2 _ _; kernel_rfl
  · cases l with
    | nil => show @Eq Res2 _ _; kernel_rfl
    | cons d l => show @Eq Res2 _ _; kernel_rfl
theorem ib_blank (n : Nat) (h : HP) : SF tabA (n + 10) 12 [.str [32, 9, 10, 13], bv 32] h .no = some (.ret (iv 0) h, .no) := by kernel_rfl
/-- Blanks to the end. -/
theorem gap_blanks {n : Nat} {s : LN} (hs : s.length ≤ 100000) (M : Nat) (h : HP) : ∀ mm i, i ≤ s.length → s.length - i < mm → (∀ c ∈ s.drop i, c = 32) → nrec (fun _ _ _ => none) (fun _ g => S10_1b (SF tabA (n + 10)) M g) mm s (Int.ofNat i) h = some (.ret (iv s.length) h, .no) := by
  intro mm
  induction mm with
  | zero => intro i _ h2 _; omega
  | succ mm ih =>
    intro i h1 h2 h3
    show S10_1b (SF tabA (n + 10)) M (nrec (fun _ _ _ => none) (fun _ g => S10_1b (SF tabA (n + 10)) M g) mm) s (Int.ofNat i) h = _
    unfold S10_1b
    dsimp only
    rw [lenL_eq, lt_nat]
    by_cases g : i < s.length
    · have hd := List.drop_eq_getElem_cons g
      have h32 : s[i] = 32 := h3 _ (by rw [hd]; exact List.mem_cons_self)
      rw [h32] at hd
      rw [decide_eq_true g, br_t, slC_lo (by omega), hd]
      refine (asS_s _ _).trans ?_
      refine (ixC_s (c := 32) (i := 0) rfl _).trans ?_
      refine (asI_b _ _).trans ?_
      refine (cal_of (ib_blank n h) _).trans ?_
      refine (asI_iv _ _).trans ?_
      refine (br_tt (by kernel_rfl) _ _).trans ?_
      rw [add_nat, wr_nat (by omega)]
      exact ih (i + 1) (by omega) (by omega) (fun c hc => h3 c (by rw [hd]; exact List.mem_cons_of_mem _ hc))
    · rw [decide_eq_false g, br_f]
      have : i = s.length := by omega
      subst this
      rfl
theorem gap_run2 {s : LN} (hs : s.length ≤ 8500) {a : Nat} (ha : a ≤ s.length) (hb : ∀ c ∈ s.drop a, c = 32) (h : HP) : SF tabA 9000 10 [.str s, iv a] h .no = some (.ret (iv s.length) h, .no) := by
  rw [SF_succ, find_gap]
  exact gap_blanks (n := 8989) (by omega) 8999 h 8999 a ha (by omega) hb
def G1 (s : LN) (a : Nat) : Prop := a < s.length ∧ ∃ l, s.drop a = 59 :: l
def G2 (s : LN) (a : Nat) : Prop := s.length ≤ 8500 ∧ a ≤ s.length ∧ ∀ c ∈ s.drop a, c = 32
def gapP (xs : List AV) (h : HP) : Option (AV × HP) := match xs with
  | [.str s, .int .i64 (.ofNat a)] => @ite _ (G1 s a) (Classical.propDecidable _) (some (iv a, h)) (@ite _ (G2 s a) (Classical.propDecidable _) (some (iv s.length, h)) none)
  | _ => none
/- token -/
def T1 (s : LN) (a : Nat) : Prop := a < s.length ∧ ∃ l, s.drop a = 59 :: l ∧ (l = [] ∨ ∃ l', l = 59 :: l' ∨ l = 32 :: l')
abbrev semi (a : Nat) : AV := .agg [iv 4, .str [59], iv a]
def tokP (xs : List AV) (h : HP) : Option (AV × HP) := match xs with
  | [.str s, .int .i64 (.ofNat a)] => @ite _ (T1 s a) (Classical.propDecidable _) (some (semi a, h)) none
  | _ => none
theorem tok_run (m : Int) {s : LN} {a : Nat} (t : T1 s a) : gc [] (SF tabA 9000 11 [.str s, iv a] (gH m) .no) = some (semi a, []) := by
  obtain ⟨h1, l, hd, hl⟩ := t
  rw [SF_succ, find_token]
  show gc [] (S11_4 (SF tabA 8999) 8999 s (Int.ofNat a) (gH m)) = _
  unfold S11_4
  dsimp only
  rw [slC_lo (by omega), hd]
  rcases hl with rfl | ⟨l, rfl | rfl⟩
  · kernel_rfl
  · kernel_rfl
  · kernel_rfl
def tabP : ST := .node (10 - 1) tabA (.node 10 (.pr 10 gapP) (.node 11 (.pr 11 tokP) tabA))
theorem okP (m : Int) (lf : Ev.VL) : letI := rhoV m lf rfl; ST.Ok Tryz.prog tabP := by
  letI := rhoV m lf rfl
  refine .node _ _ _ (okA m lf) (.node _ _ _ (.pr _ _ fun w0 => pr_of (n := 9000) (by kernel_rfl) (okA m lf) ⟨_, Tryz.func10, by kernel_rfl, by decide +kernel⟩ (fun xs h r hr => ?_) w0) (.node _ _ _ (.pr _ _ fun w0 => pr_gc (n := 9000) (by kernel_rfl) (okA m lf) ⟨_, Tryz.func11, by kernel_rfl, by decide +kernel⟩ (fun xs h x hx => ?_) w0) (okA m lf)))
  · unfold gapP at hr
    split at hr
    · rename_i s a
      by_cases q : G1 s a
      · rw [if_pos q] at hr
        obtain rfl := Option.some.inj hr
        obtain ⟨q1, l, q2⟩ := q
        exact gap_stay (n := 8998) q1 q2 (still_semi l 8989) h
      · rw [if_neg q] at hr
        by_cases q2 : G2 s a
        · rw [if_pos q2] at hr
          obtain rfl := Option.some.inj hr
          exact gap_run2 q2.1 q2.2.1 q2.2.2 h
        · rw [if_neg q2] at hr; simp at hr
    · simp at hr
  · unfold tokP at hx
    split at hx
    · rename_i s a
      by_cases q : T1 s a
      · rw [if_pos q] at hx
        exact ⟨rfl, _, _, _, rfl, tok_run m q, hx⟩
      · rw [if_neg q] at hx; simp at hx
    · simp at hx
theorem gapP_1 {n : Nat} {s : LN} {a : Nat} (q : G1 s a) (h : HP) : SF tabP (n + 1) 10 [.str s, iv a] h .no = some (.ret (iv a) h, .no) := by
  have e : SF tabP (n + 1) 10 [.str s, iv a] h .no = ob (gapP [.str s, iv a] h) fun r => some (.ret r.1 r.2, .no) := by kernel_rfl
  rw [e]
  show ob (@ite _ (G1 s a) (Classical.propDecidable _) _ _) _ = _
  rw [if_pos q]
  rfl
theorem gapP_2 {n : Nat} {s : LN} {a : Nat} (q1 : ¬ G1 s a) (q : G2 s a) (h : HP) : SF tabP (n + 1) 10 [.str s, iv a] h .no = some (.ret (iv s.length) h, .no) := by
  have e : SF tabP (n + 1) 10 [.str s, iv a] h .no = ob (gapP [.str s, iv a] h) fun r => some (.ret r.1 r.2, .no) := by kernel_rfl
  rw [e]
  show ob (@ite _ (G1 s a) (Classical.propDecidable _) _ (@ite _ (G2 s a) (Classical.propDecidable _) _ _)) _ = _
  rw [if_neg q1, if_pos q]
  rfl
theorem tokP_1 {n : Nat} {s : LN} {a : Nat} (q : T1 s a) (h : HP) : SF tabP (n + 1) 11 [.str s, iv a] h .no = some (.ret (semi a) h, .no) := by
  have e : SF tabP (n + 1) 11 [.str s, iv a] h .no = ob (tokP [.str s, iv a] h) fun r => some (.ret r.1 r.2, .no) := by kernel_rfl
  rw [e]
  show ob (@ite _ (T1 s a) (Classical.propDecidable _) _ _) _ = _
  rw [if_pos q]
  rfl
end
end Go.Proofs.YtlfhnopganplfaaGreatDoor.Lx
