/- LexNames: a text of letters and digits that begins with a letter: the lexer at it. -/
import Derived.Test.YtlfhnopganplfaaGreatDoorLf
set_option linter.unusedVariables false
set_option linter.unusedSimpArgs false
set_option linter.unusedSectionVars false
set_option maxRecDepth 20000
namespace Go.Proofs.YtlfhnopganplfaaGreatDoor.Lx
open Go Go.Proofs.YtlfhnopganplfaaGreatDoor.Ev Go.Proofs.YtlfhnopganplfaaGreatDoor.Sx
noncomputable section
def AllP (P : Nat → Prop) : List Nat → Prop | [] => True | c :: l => P c ∧ AllP P l
theorem all_of {P : Nat → Prop} : ∀ {l : List Nat}, AllP P l → ∀ c ∈ l, P c
  | [], _, c, h => by simp at h
  | a :: l, h, c, hc => by
    rcases List.mem_cons.1 hc with rfl | hc
    · exact h.1
    · exact all_of h.2 c hc
def setA : List Nat := [97, 98, 99, 100, 101, 102, 103, 104, 105, 106, 107, 108, 109, 110, 111, 112, 113, 114, 115, 116, 117, 118, 119, 120, 121, 122, 65, 66, 67, 88, 89, 90, 95]
def setL : List Nat := [97, 98, 99, 100, 101, 102, 103, 104, 105, 106, 107, 108, 109, 110, 111, 112, 113, 114, 115, 116, 117, 118, 119, 120, 121, 122, 65, 66, 67, 88, 89, 90, 95, 48, 49, 50, 51, 52, 53, 54, 55, 56, 57]
theorem let_set (n : Nat) (h : HP) : ∀ c ∈ setA, SF tabA (n + 1) 17 [bv c] h .no = some (.ret (vB true) h, .no) :=
  all_of (P := fun c => SF tabA (n + 1) 17 [bv c] h .no = some (.ret (vB true) h, .no)) (l := setA) (by refine ⟨?_, ?_, ?_, ?_, ?_, ?_, ?_, ?_, ?_, ?_, ?_, ?_, ?_, ?_, ?_, ?_, ?_, ?_, ?_, ?_, ?_, ?_, ?_, ?_, ?_, ?_, ?_, ?_, ?_, ?_, ?_, ?_, ?_, trivial⟩ <;> (show @Eq Res2 _ _; kernel_rfl))
theorem lod_set (n : Nat) (h : HP) : ∀ c ∈ setL, SF tabA (n + 2) 18 [bv c] h .no = some (.ret (vB true) h, .no) :=
  all_of (P := fun c => SF tabA (n + 2) 18 [bv c] h .no = some (.ret (vB true) h, .no)) (l := setL) (by refine ⟨?_, ?_, ?_, ?_, ?_, ?_, ?_, ?_, ?_, ?_, ?_, ?_, ?_, ?_, ?_, ?_, ?_, ?_, ?_, ?_, ?_, ?_, ?_, ?_, ?_, ?_, ?_, ?_, ?_, ?_, ?_, ?_, ?_, ?_, ?_, ?_, ?_, ?_, ?_, ?_, ?_, ?_, ?_, trivial⟩ <;> (show @Eq Res2 _ _; kernel_rfl))
theorem ib_set (n : Nat) (h : HP) : ∀ c ∈ setA, SF tabA (n + 10) 12 [.str [32, 9, 10, 13], bv c] h .no = some (.ret (vI (Int.negSucc 0)) h, .no) :=
  all_of (P := fun c => SF tabA (n + 10) 12 [.str [32, 9, 10, 13], bv c] h .no = some (.ret (vI (Int.negSucc 0)) h, .no)) (l := setA) (by refine ⟨?_, ?_, ?_, ?_, ?_, ?_, ?_, ?_, ?_, ?_, ?_, ?_, ?_, ?_, ?_, ?_, ?_, ?_, ?_, ?_, ?_, ?_, ?_, ?_, ?_, ?_, ?_, ?_, ?_, ?_, ?_, ?_, ?_, trivial⟩ <;> (show @Eq Res2 _ _; kernel_rfl))
theorem hp1_nil (n : Nat) (h : HP) : ∀ c ∈ setA, SF tabA (n + 10) 13 [.str (c :: []), .str [47, 47]] h .no = some (.ret (vB false) h, .no) :=
  all_of (P := fun c => SF tabA (n + 10) 13 [.str (c :: []), .str [47, 47]] h .no = some (.ret (vB false) h, .no)) (l := setA) (by refine ⟨?_, ?_, ?_, ?_, ?_, ?_, ?_, ?_, ?_, ?_, ?_, ?_, ?_, ?_, ?_, ?_, ?_, ?_, ?_, ?_, ?_, ?_, ?_, ?_, ?_, ?_, ?_, ?_, ?_, ?_, ?_, ?_, ?_, trivial⟩ <;> (show @Eq Res2 _ _; kernel_rfl))
theorem hp1_cons (n : Nat) (h : HP) (d : Nat) (l : LN) : ∀ c ∈ setA, SF tabA (n + 10) 13 [.str (c :: d :: l), .str [47, 47]] h .no = some (.ret (vB false) h, .no) :=
  all_of (P := fun c => SF tabA (n + 10) 13 [.str (c :: d :: l), .str [47, 47]] h .no = some (.ret (vB false) h, .no)) (l := setA) (by refine ⟨?_, ?_, ?_, ?_, ?_, ?_, ?_, ?_, ?_, ?_, ?_, ?_, ?_, ?_, ?_, ?_, ?_, ?_, ?_, ?_, ?_, ?_, ?_, ?_, ?_, ?_, ?_, ?_, ?_, ?_, ?_, ?_, ?_, trivial⟩ <;> (show @Eq Res2 _ _; kernel_rfl))
theorem hp2_nil (n : Nat) (h : HP) : ∀ c ∈ setA, SF tabA (n + 10) 13 [.str (c :: []), .str [47, 42]] h .no = some (.ret (vB false) h, .no) :=
  all_of (P := fun c => SF tabA (n + 10) 13 [.str (c :: []), .str [47, 42]] h .no = some (.ret (vB false) h, .no)) (l := setA) (by refine ⟨?_, ?_, ?_, ?_, ?_, ?_, ?_, ?_, ?_, ?_, ?_, ?_, ?_, ?_, ?_, ?_, ?_, ?_, ?_, ?_, ?_, ?_, ?_, ?_, ?_, ?_, ?_, ?_, ?_, ?_, ?_, ?_, ?_, trivial⟩ <;> (show @Eq Res2 _ _; kernel_rfl))
theorem hp2_cons (n : Nat) (h : HP) (d : Nat) (l : LN) : ∀ c ∈ setA, SF tabA (n + 10) 13 [.str (c :: d :: l), .str [47, 42]] h .no = some (.ret (vB false) h, .no) :=
  all_of (P := fun c => SF tabA (n + 10) 13 [.str (c :: d :: l), .str [47, 42]] h .no = some (.ret (vB false) h, .no)) (l := setA) (by refine ⟨?_, ?_, ?_, ?_, ?_, ?_, ?_, ?_, ?_, ?_, ?_, ?_, ?_, ?_, ?_, ?_, ?_, ?_, ?_, ?_, ?_, ?_, ?_, ?_, ?_, ?_, ?_, ?_, ?_, ?_, ?_, ?_, ?_, trivial⟩ <;> (show @Eq Res2 _ _; kernel_rfl))
theorem still_set {c : Nat} (hc : c ∈ setA) (l : LN) (n : Nat) : Still (n + 10) c l := by
  refine ⟨fun h => ib_set n h c hc, fun h => ?_, fun h => ?_⟩
  · cases l with
    | nil => exact hp1_nil n h c hc
    | cons d l => exact hp1_cons n h d l c hc
  · cases l with
    | nil => exact hp2_nil n h c hc
    | cons d l => exact hp2_cons n h d l c hc
/-- A name's bytes. -/
def Nam (s : LN) : Prop := (∃ c l, s = c :: l ∧ c ∈ setA) ∧ (∀ c ∈ s, c ∈ setL) ∧ s.length ≤ 60
theorem while_nam {n : Nat} {s : LN} (hs : ∀ c ∈ s, c ∈ setL) (hl : s.length < n + 2) (hn : n + 2 ≤ 100000) (h : HP) : SF tabA (n + 3) 14 [.str s, .fn 18 [] []] h .no = some (.ret (iv s.length) h, .no) :=
  sf_while_all (fun c hc => lod_set n h c (hs c hc)) hl hn
/-- The kind of a name's token; 0: it is too long. -/
def kd (s : LN) : Nat := if isW s = true then 5 else if 40 < s.length then 0 else 1
theorem isW_len {s : LN} (h : isW s = true) : s.length ≤ 8 := by
  unfold isW wordsL at h
  simp only [List.contains_iff_mem, List.mem_cons, List.not_mem_nil, or_false] at h
  rcases h with rfl | rfl | rfl | rfl | rfl | rfl | rfl | rfl | rfl | rfl | rfl <;> decide
theorem tok_nam {s : LN} (q : Nam s) (h : HP) : SF tabA 899 11 [.str s, iv 0] h .no = S11_0 (SF tabA 898) 898 (Int.ofNat 0) (AV.ptr (HP.nxQ h) 0) s (Int.ofNat (kd s)) (Int.ofNat s.length) (bx h) := by
  obtain ⟨⟨c, l, e, hc⟩, q2, q3⟩ := q
  rw [SF_succ, find_token]
  show S11_4 (SF tabA 898) 898 s (Int.ofNat 0) h = _
  unfold S11_4
  dsimp only
  refine (slC_lo (Nat.zero_le _) _).trans ?_
  rw [List.drop_zero]
  refine (asS_s _ _).trans ?_
  refine (ixC_s (c := c) (i := 0) (by rw [e]; rfl) _).trans ?_
  refine (asI_b _ _).trans ?_
  refine (cal_of (let_set 897 _ c hc) _).trans ?_
  refine (asB_b _ _).trans ?_
  refine (br_t _ _).trans ?_
  refine (cal_of (while_nam (n := 895) q2 (by omega) (by omega) _) _).trans ?_
  refine (asI_iv _ _).trans ?_
  refine (slC_hi (Nat.le_refl _) _).trans ?_
  rw [List.take_length]
  refine (asS_s _ _).trans ?_
  refine (cal_of (sf_word 897 s _) _).trans ?_
  refine (asB_b _ _).trans ?_
  unfold kd
  by_cases w : isW s = true
  · rw [w, if_pos rfl]; exact br_t _ _
  · rw [if_neg w]
    have w : isW s = false := by cases e : isW s with | true => exact absurd e w | false => rfl
    rw [w, br_f, lt_nat]
    by_cases g : 40 < s.length
    · rw [decide_eq_true g, if_pos g]; exact br_t _ _
    · rw [decide_eq_false g, if_neg g]; exact br_f _ _
section
variable (m : Int)
theorem lex_nam {s : LN} (q : Nam s) (hk : kd s ≠ 0) : gc [kX m (kd s) s s.length] (SF tabA 900 7 [.str s] (gH m) .no) = some (.tup [.slice .h 0 2 (.spare 3), iv 0, iv 0], [.cells true (okV (kd s) s)]) := by
  obtain ⟨c, l, e, hc⟩ := q.1
  refine lex_ok m e (by have := q.2.2; omega) (fun h => gap_stay (n := 897) (by rw [e]; simp) (by rw [e]; rfl) (still_set hc l 888) h) (fun h => gap_end s h) ?_
  rw [tok_nam q]
  exact tok_fin m hk s _ _
theorem lex_nab {s : LN} (q : Nam s) (hk : kd s = 0) : gc [] (SF tabA 900 7 [.str s] (gH m) .no) = some (.tup [.nils, iv 0, iv 10], []) := by
  obtain ⟨c, l, e, hc⟩ := q.1
  refine lex_bad m (ch := chX) (hp := bx (hB m)) e (by have := q.2.2; omega) (fun h => gap_stay (n := 897) (by rw [e]; simp) (by rw [e]; rfl) (still_set hc l 888) h) ?_ (by kernel_rfl)
  rw [tok_nam q, hk]
  exact tok_pan s s.length _ _ _ _
end
/- The reference's reserved words. -/
theorem find_w8 : tabA.run 8 = S8 := by kernel_rfl
def hW (m : Int) : HP := HP.newQ (gH m) (.cells true [(vS ([105, 110, 116] : LN)), (vS ([100, 111, 117, 98, 108, 101] : LN)), (vS ([118, 111, 105, 100] : LN)), (vS ([115, 116, 97, 116, 105, 99] : LN)), (vS ([101, 120, 116, 101, 114, 110] : LN)), (vS ([105, 102] : LN)), (vS ([101, 108, 115, 101] : LN)), (vS ([119, 104, 105, 108, 101] : LN)), (vS ([114, 101, 116, 117, 114, 110] : LN)), (vS ([98, 114, 101, 97, 107] : LN)), (vS ([99, 111, 110, 116, 105, 110, 117, 101] : LN))])
abbrev pW (m : Int) : AV := .ptr (HP.nxQ (gH m)) 0
theorem w8_0 (m : Int) (D : CallD) (M : Nat) (s : LN) : S8_2 D M s (gH m) = S8_1 D M s (pW m) (Int.ofNat 0) (hW m) := by kernel_rfl
theorem w8_1 (m : Int) (D : CallD) (M : Nat) (g : LN → AV → Int → HP → Res2) (s : LN) : S8_1b D M g s (pW m) (Int.ofNat 0) (hW m) = br (eqL [105, 110, 116] s) (some (.ret (vB true) (hW m), .no)) (g s (pW m) (Int.ofNat 1) (hW m)) := by kernel_rfl
theorem w8_2 (m : Int) (D : CallD) (M : Nat) (g : LN → AV → Int → HP → Res2) (s : LN) : S8_1b D M g s (pW m) (Int.ofNat 1) (hW m) = br (eqL [100, 111, 117, 98, 108, 101] s) (some (.ret (vB true) (hW m), .no)) (g s (pW m) (Int.ofNat 2) (hW m)) := by kernel_rfl
theorem w8_3 (m : Int) (D : CallD) (M : Nat) (g : LN → AV → Int → HP → Res2) (s : LN) : S8_1b D M g s (pW m) (Int.ofNat 2) (hW m) = br (eqL [118, 111, 105, 100] s) (some (.ret (vB true) (hW m), .no)) (g s (pW m) (Int.ofNat 3) (hW m)) := by kernel_rfl
theorem w8_4 (m : Int) (D : CallD) (M : Nat) (g : LN → AV → Int → HP → Res2) (s : LN) : S8_1b D M g s (pW m) (Int.ofNat 3) (hW m) = br (eqL [115, 116, 97, 116, 105, 99] s) (some (.ret (vB true) (hW m), .no)) (g s (pW m) (Int.ofNat 4) (hW m)) := by kernel_rfl
theorem w8_5 (m : Int) (D : CallD) (M : Nat) (g : LN → AV → Int → HP → Res2) (s : LN) : S8_1b D M g s (pW m) (Int.ofNat 4) (hW m) = br (eqL [101, 120, 116, 101, 114, 110] s) (some (.ret (vB true) (hW m), .no)) (g s (pW m) (Int.ofNat 5) (hW m)) := by kernel_rfl
theorem w8_6 (m : Int) (D : CallD) (M : Nat) (g : LN → AV → Int → HP → Res2) (s : LN) : S8_1b D M g s (pW m) (Int.ofNat 5) (hW m) = br (eqL [105, 102] s) (some (.ret (vB true) (hW m), .no)) (g s (pW m) (Int.ofNat 6) (hW m)) := by kernel_rfl
theorem w8_7 (m : Int) (D : CallD) (M : Nat) (g : LN → AV → Int → HP → Res2) (s : LN) : S8_1b D M g s (pW m) (Int.ofNat 6) (hW m) = br (eqL [101, 108, 115, 101] s) (some (.ret (vB true) (hW m), .no)) (g s (pW m) (Int.ofNat 7) (hW m)) := by kernel_rfl
theorem w8_8 (m : Int) (D : CallD) (M : Nat) (g : LN → AV → Int → HP → Res2) (s : LN) : S8_1b D M g s (pW m) (Int.ofNat 7) (hW m) = br (eqL [119, 104, 105, 108, 101] s) (some (.ret (vB true) (hW m), .no)) (g s (pW m) (Int.ofNat 8) (hW m)) := by kernel_rfl
theorem w8_9 (m : Int) (D : CallD) (M : Nat) (g : LN → AV → Int → HP → Res2) (s : LN) : S8_1b D M g s (pW m) (Int.ofNat 8) (hW m) = br (eqL [114, 101, 116, 117, 114, 110] s) (some (.ret (vB true) (hW m), .no)) (g s (pW m) (Int.ofNat 9) (hW m)) := by kernel_rfl
theorem w8_10 (m : Int) (D : CallD) (M : Nat) (g : LN → AV → Int → HP → Res2) (s : LN) : S8_1b D M g s (pW m) (Int.ofNat 9) (hW m) = br (eqL [98, 114, 101, 97, 107] s) (some (.ret (vB true) (hW m), .no)) (g s (pW m) (Int.ofNat 10) (hW m)) := by kernel_rfl
theorem w8_11 (m : Int) (D : CallD) (M : Nat) (g : LN → AV → Int → HP → Res2) (s : LN) : S8_1b D M g s (pW m) (Int.ofNat 10) (hW m) = br (eqL [99, 111, 110, 116, 105, 110, 117, 101] s) (some (.ret (vB true) (hW m), .no)) (g s (pW m) (Int.ofNat 11) (hW m)) := by kernel_rfl
theorem w8_12 (m : Int) (D : CallD) (M : Nat) (g : LN → AV → Int → HP → Res2) (s : LN) : S8_1b D M g s (pW m) (Int.ofNat 11) (hW m) = some (.ret (vB false) (hW m), .no) := by kernel_rfl
theorem sf_w8 (m : Int) (s : LN) : SF tabA 50 8 [.str s] (gH m) .no = some (.ret (vB (isW s)) (hW m), .no) := by
  rw [SF_succ, find_w8]
  show S8_2 (SF tabA 49) 49 s (gH m) = _
  rw [w8_0]
  refine Eq.trans (b := S8_1b (SF tabA 49) 49 (nrec (fun _ _ _ _ => none) (fun _ g => S8_1b (SF tabA 49) 49 g) 48) s (pW m) (Int.ofNat 0) (hW m)) rfl ?_
  rw [w8_1, eqL_eq]
  by_cases w0 : [105, 110, 116] = s
  · rw [decide_eq_true w0, br_t, ← w0]; rfl
  rw [decide_eq_false w0, br_f]
  refine Eq.trans (b := S8_1b (SF tabA 49) 49 (nrec (fun _ _ _ _ => none) (fun _ g => S8_1b (SF tabA 49) 49 g) 47) s (pW m) (Int.ofNat 1) (hW m)) rfl ?_
  rw [w8_2, eqL_eq]
  by_cases w1 : [100, 111, 117, 98, 108, 101] = s
  · rw [decide_eq_true w1, br_t, ← w1]; rfl
  rw [decide_eq_false w1, br_f]
  refine Eq.trans (b := S8_1b (SF tabA 49) 49 (nrec (fun _ _ _ _ => none) (fun _ g => S8_1b (SF tabA 49) 49 g) 46) s (pW m) (Int.ofNat 2) (hW m)) rfl ?_
  rw [w8_3, eqL_eq]
  by_cases w2 : [118, 111, 105, 100] = s
  · rw [decide_eq_true w2, br_t, ← w2]; rfl
  rw [decide_eq_false w2, br_f]
  refine Eq.trans (b := S8_1b (SF tabA 49) 49 (nrec (fun _ _ _ _ => none) (fun _ g => S8_1b (SF tabA 49) 49 g) 45) s (pW m) (Int.ofNat 3) (hW m)) rfl ?_
  rw [w8_4, eqL_eq]
  by_cases w3 : [115, 116, 97, 116, 105, 99] = s
  · rw [decide_eq_true w3, br_t, ← w3]; rfl
  rw [decide_eq_false w3, br_f]
  refine Eq.trans (b := S8_1b (SF tabA 49) 49 (nrec (fun _ _ _ _ => none) (fun _ g => S8_1b (SF tabA 49) 49 g) 44) s (pW m) (Int.ofNat 4) (hW m)) rfl ?_
  rw [w8_5, eqL_eq]
  by_cases w4 : [101, 120, 116, 101, 114, 110] = s
  · rw [decide_eq_true w4, br_t, ← w4]; rfl
  rw [decide_eq_false w4, br_f]
  refine Eq.trans (b := S8_1b (SF tabA 49) 49 (nrec (fun _ _ _ _ => none) (fun _ g => S8_1b (SF tabA 49) 49 g) 43) s (pW m) (Int.ofNat 5) (hW m)) rfl ?_
  rw [w8_6, eqL_eq]
  by_cases w5 : [105, 102] = s
  · rw [decide_eq_true w5, br_t, ← w5]; rfl
  rw [decide_eq_false w5, br_f]
  refine Eq.trans (b := S8_1b (SF tabA 49) 49 (nrec (fun _ _ _ _ => none) (fun _ g => S8_1b (SF tabA 49) 49 g) 42) s (pW m) (Int.ofNat 6) (hW m)) rfl ?_
  rw [w8_7, eqL_eq]
  by_cases w6 : [101, 108, 115, 101] = s
  · rw [decide_eq_true w6, br_t, ← w6]; rfl
  rw [decide_eq_false w6, br_f]
  refine Eq.trans (b := S8_1b (SF tabA 49) 49 (nrec (fun _ _ _ _ => none) (fun _ g => S8_1b (SF tabA 49) 49 g) 41) s (pW m) (Int.ofNat 7) (hW m)) rfl ?_
  rw [w8_8, eqL_eq]
  by_cases w7 : [119, 104, 105, 108, 101] = s
  · rw [decide_eq_true w7, br_t, ← w7]; rfl
  rw [decide_eq_false w7, br_f]
  refine Eq.trans (b := S8_1b (SF tabA 49) 49 (nrec (fun _ _ _ _ => none) (fun _ g => S8_1b (SF tabA 49) 49 g) 40) s (pW m) (Int.ofNat 8) (hW m)) rfl ?_
  rw [w8_9, eqL_eq]
  by_cases w8 : [114, 101, 116, 117, 114, 110] = s
  · rw [decide_eq_true w8, br_t, ← w8]; rfl
  rw [decide_eq_false w8, br_f]
  refine Eq.trans (b := S8_1b (SF tabA 49) 49 (nrec (fun _ _ _ _ => none) (fun _ g => S8_1b (SF tabA 49) 49 g) 39) s (pW m) (Int.ofNat 9) (hW m)) rfl ?_
  rw [w8_10, eqL_eq]
  by_cases w9 : [98, 114, 101, 97, 107] = s
  · rw [decide_eq_true w9, br_t, ← w9]; rfl
  rw [decide_eq_false w9, br_f]
  refine Eq.trans (b := S8_1b (SF tabA 49) 49 (nrec (fun _ _ _ _ => none) (fun _ g => S8_1b (SF tabA 49) 49 g) 38) s (pW m) (Int.ofNat 10) (hW m)) rfl ?_
  rw [w8_11, eqL_eq]
  by_cases w10 : [99, 111, 110, 116, 105, 110, 117, 101] = s
  · rw [decide_eq_true w10, br_t, ← w10]; rfl
  rw [decide_eq_false w10, br_f]
  refine Eq.trans (b := S8_1b (SF tabA 49) 49 (nrec (fun _ _ _ _ => none) (fun _ g => S8_1b (SF tabA 49) 49 g) 37) s (pW m) (Int.ofNat 11) (hW m)) rfl ?_
  rw [w8_12]
  have : isW s = false := by
    unfold isW wordsL
    simp only [List.contains_cons, Bool.or_eq_false_iff, beq_eq_false_iff_ne]
    exact ⟨fun e => w0 e.symm, fun e => w1 e.symm, fun e => w2 e.symm, fun e => w3 e.symm, fun e => w4 e.symm, fun e => w5 e.symm, fun e => w6 e.symm, fun e => w7 e.symm, fun e => w8 e.symm, fun e => w9 e.symm, fun e => w10 e.symm, rfl⟩
  rw [this]
def w8P (xs : List AV) (h : HP) : Option (AV × HP) := match xs with | [.str s] => some (vB (isW s), h) | _ => none
def lexM (xs : List AV) (h : HP) : Option (AV × HP) := match xs with
  | [.str s] => @ite _ (Nam s) (Classical.propDecidable _) (if kd s = 0 then some (.tup [.nils, iv 0, iv 10], h) else some (okA' (kd s) s h)) none
  | _ => none
def tabM : ST := .node 6 tabA (.node 7 (.pr 7 lexM) (.node 8 (.pr 8 w8P) tabA))
theorem okM (m : Int) (lf : Ev.VL) : letI := rhoV m lf rfl; ST.Ok Tryz.prog tabM := by
  letI := rhoV m lf rfl
  refine .node _ _ _ (okA m lf) (.node _ _ _ (.pr _ _ fun w0 => pr_gc (n := 900) (by kernel_rfl) (okA m lf) ⟨_, Tryz.func7, by kernel_rfl, by decide +kernel⟩ (fun xs h x hx => ?_) w0) (.node _ _ _ (.pr _ _ fun w0 => pr_ret (n := 50) (by kernel_rfl) (okA m lf) ⟨_, Tryz.func8, by kernel_rfl, by decide +kernel⟩ (fun xs h x hx => ?_) w0) (okA m lf)))
  · unfold lexM at hx
    split at hx
    · rename_i s
      by_cases q : Nam s
      · rw [if_pos q] at hx
        by_cases k : kd s = 0
        · rw [if_pos k] at hx
          exact ⟨rfl, _, _, _, rfl, lex_nab m q k, (emb_er h).trans hx⟩
        · rw [if_neg k] at hx
          exact ⟨rfl, _, _, _, rfl, lex_nam m q k, (emb_ok (kd s) s h).trans hx⟩
      · rw [if_neg q] at hx; simp at hx
    · simp at hx
  · unfold w8P at hx
    split at hx
    · rename_i s
      obtain rfl := Option.some.inj hx
      exact ⟨rfl, rfl, rfl, _, sf_w8 m s⟩
    · simp at hx
theorem lexM_ok {n : Nat} {s : LN} (q : Nam s) (k : kd s ≠ 0) (h : HP) : SF tabM (n + 1) 7 [.str s] h .no = some (.ret (.tup [.slice (HP.nxQ h) 0 2 (.spare 3), iv 0, iv 0]) (HP.newQ h (.cells true (okV (kd s) s))), .no) := by
  have e : SF tabM (n + 1) 7 [.str s] h .no = ob (lexM [.str s] h) fun r => some (.ret r.1 r.2, .no) := by kernel_rfl
  rw [e]
  unfold lexM
  dsimp only
  rw [if_pos q, if_neg k]
  rfl
theorem lexM_er {n : Nat} {s : LN} (q : Nam s) (k : kd s = 0) (h : HP) : SF tabM (n + 1) 7 [.str s] h .no = some (.ret (.tup [.nils, iv 0, iv 10]) h, .no) := by
  have e : SF tabM (n + 1) 7 [.str s] h .no = ob (lexM [.str s] h) fun r => some (.ret r.1 r.2, .no) := by kernel_rfl
  rw [e]
  unfold lexM
  dsimp only
  rw [if_pos q, if_pos k]
  rfl
theorem w8_ok {n : Nat} (s : LN) (h : HP) : SF tabM (n + 1) 8 [.str s] h .no = some (.ret (vB (isW s)) h, .no) := by kernel_rfl
end
end Go.Proofs.YtlfhnopganplfaaGreatDoor.Lx
