/- Lexing: at a digit; rows of digits. -/
import Derived.Test.YtlfhnopganplfaaGreatDoorLa
set_option linter.unusedVariables false
set_option linter.unusedSimpArgs false
set_option linter.unusedSectionVars false
set_option maxRecDepth 20000
namespace Go.Proofs.YtlfhnopganplfaaGreatDoor.Lx
open Go Go.Proofs.YtlfhnopganplfaaGreatDoor.Ev Go.Proofs.YtlfhnopganplfaaGreatDoor.Sx
noncomputable section
theorem asS_s (s : LN) (F : LN → Res2) : asS (vS s) F = F s := rfl
theorem asB_b (c : Bool) (F : Bool → Res2) : asB (vB c) F = F c := rfl
theorem asI_b (c : Nat) (F : Int → Res2) : asI .u8 (bv c) F = F (Int.ofNat c) := rfl
theorem ten {P : Nat → Prop} (h0 : P 48) (h1 : P 49) (h2 : P 50) (h3 : P 51) (h4 : P 52) (h5 : P 53) (h6 : P 54) (h7 : P 55) (h8 : P 56) (h9 : P 57) {c : Nat} (h : 48 ≤ c ∧ c ≤ 57) : P c := by
  have : c = 48 ∨ c = 49 ∨ c = 50 ∨ c = 51 ∨ c = 52 ∨ c = 53 ∨ c = 54 ∨ c = 55 ∨ c = 56 ∨ c = 57 := by omega
  rcases this with rfl | rfl | rfl | rfl | rfl | rfl | rfl | rfl | rfl | rfl <;> assumption
theorem let_dig {c : Nat} (hc : 48 ≤ c ∧ c ≤ 57) (n : Nat) (h : HP) : SF tabA (n + 1) 17 [bv c] h .no = some (.ret (vB false) h, .no) :=
  ten (P := fun c => SF tabA (n + 1) 17 [bv c] h .no = some (.ret (vB false) h, .no)) (by kernel_rfl) (by kernel_rfl) (by kernel_rfl) (by kernel_rfl) (by kernel_rfl) (by kernel_rfl) (by kernel_rfl) (by kernel_rfl) (by kernel_rfl) (by kernel_rfl) hc
theorem dig_dig {c : Nat} (hc : 48 ≤ c ∧ c ≤ 57) (n : Nat) (h : HP) : SF tabA (n + 1) 19 [bv c] h .no = some (.ret (vB true) h, .no) :=
  ten (P := fun c => SF tabA (n + 1) 19 [bv c] h .no = some (.ret (vB true) h, .no)) (by kernel_rfl) (by kernel_rfl) (by kernel_rfl) (by kernel_rfl) (by kernel_rfl) (by kernel_rfl) (by kernel_rfl) (by kernel_rfl) (by kernel_rfl) (by kernel_rfl) hc
theorem ib_dig {c : Nat} (hc : 48 ≤ c ∧ c ≤ 57) (n : Nat) (h : HP) : SF tabA (n + 10) 12 [.str [32, 9, 10, 13], bv c] h .no = some (.ret (vI (Int.negSucc 0)) h, .no) :=
  ten (P := fun c => SF tabA (n + 10) 12 [.str [32, 9, 10, 13], bv c] h .no = some (.ret (vI (Int.negSucc 0)) h, .no)) (by kernel_rfl) (by kernel_rfl) (by kernel_rfl) (by kernel_rfl) (by kernel_rfl) (by kernel_rfl) (by kernel_rfl) (by kernel_rfl) (by kernel_rfl) (by kernel_rfl) hc
theorem hp1_dig {c : Nat} (hc : 48 ≤ c ∧ c ≤ 57) (l : LN) (n : Nat) (h : HP) : SF tabA (n + 10) 13 [.str (c :: l), .str [47, 47]] h .no = some (.ret (vB false) h, .no) := by
  cases l with
  | nil => exact ten (P := fun c => SF tabA (n + 10) 13 [.str (c :: []), .str [47, 47]] h .no = some (.ret (vB false) h, .no)) (by kernel_rfl) (by kernel_rfl) (by kernel_rfl) (by kernel_rfl) (by kernel_rfl) (by kernel_rfl) (by kernel_rfl) (by kernel_rfl) (by kernel_rfl) (by kernel_rfl) hc
  | cons d l => exact ten (P := fun c => SF tabA (n + 10) 13 [.str (c :: d :: l), .str [47, 47]] h .no = some (.ret (vB false) h, .no)) (by kernel_rfl) (by kernel_rfl) (by kernel_rfl) (by kernel_rfl) (by kernel_rfl) (by kernel_rfl) (by kernel_rfl) (by kernel_rfl) (by kernel_rfl) (by kernel_rfl) hc
theorem hp2_dig {c : Nat} (hc : 48 ≤ c ∧ c ≤ 57) (l : LN) (n : Nat) (h : HP) : SF tabA (n + 10) 13 [.str (c :: l), .str [47, 42]] h .no = some (.ret (vB false) h, .no) := by
  cases l with
  | nil => exact ten (P := fun c => SF tabA (n + 10) 13 [.str (c :: []), .str [47, 42]] h .no = some (.ret (vB false) h, .no)) (by kernel_rfl) (by kernel_rfl) (by kernel_rfl) (by kernel_rfl) (by kernel_rfl) (by kernel_rfl) (by kernel_rfl) (by kernel_rfl) (by kernel_rfl) (by kernel_rfl) hc
  | cons d l => exact ten (P := fun c => SF tabA (n + 10) 13 [.str (c :: d :: l), .str [47, 42]] h .no = some (.ret (vB false) h, .no)) (by kernel_rfl) (by kernel_rfl) (by kernel_rfl) (by kernel_rfl) (by kernel_rfl) (by kernel_rfl) (by kernel_rfl) (by kernel_rfl) (by kernel_rfl) (by kernel_rfl) hc
/- gap: it stays at what is no blank and no remark's beginning; and at the end. -/
theorem find_gap : tabA.run 10 = S10 := by kernel_rfl
theorem gap_end {n : Nat} (s : LN) (h : HP) : SF tabA (n + 2) 10 [.str s, iv s.length] h .no = some (.ret (iv s.length) h, .no) := by
  rw [SF_succ, find_gap]
  show S10_1b (SF tabA (n + 1)) (n + 1) (nrec (fun _ _ _ => none) (fun _ g => S10_1b (SF tabA (n + 1)) (n + 1) g) n) s (Int.ofNat s.length) h = _
  unfold S10_1b
  dsimp only
  rw [lenL_eq, lt_nat, decide_eq_false (by omega), br_f]
  rfl
/-- What gap looks at, at a byte that is no blank and begins no remark. -/
structure Still (n : Nat) (c : Nat) (l : LN) : Prop where
  ib : ∀ h, SF tabA n 12 [.str [32, 9, 10, 13], bv c] h .no = some (.ret (vI (Int.negSucc 0)) h, .no)
  h1 : ∀ h, SF tabA n 13 [.str (c :: l), .str [47, 47]] h .no = some (.ret (vB false) h, .no)
  h2 : ∀ h, SF tabA n 13 [.str (c :: l), .str [47, 42]] h .no = some (.ret (vB false) h, .no)
theorem gap_round {D : CallD} {M : Nat} {g : LN → Int → HP → Res2} {s : LN} {i c : Nat} {l : LN} (hi : i < s.length) (hd : s.drop i = c :: l) (ib : ∀ h, D 12 [.str [32, 9, 10, 13], bv c] h .no = some (.ret (vI (Int.negSucc 0)) h, .no))
    (h1 : ∀ h, D 13 [.str (c :: l), .str [47, 47]] h .no = some (.ret (vB false) h, .no)) (h2 : ∀ h, D 13 [.str (c :: l), .str [47, 42]] h .no = some (.ret (vB false) h, .no)) (h : HP) : S10_1b D M g s (Int.ofNat i) h = some (.ret (iv i) h, .no) := by
  unfold S10_1b
  dsimp only
  rw [lenL_eq, lt_nat, decide_eq_true hi, br_t, slC_lo (by omega), hd]
  refine (asS_s _ _).trans ?_
  refine (ixC_s (c := c) (i := 0) rfl _).trans ?_
  refine (asI_b _ _).trans ?_
  refine (cal_of (ib h) _).trans ?_
  refine (asI_iv _ _).trans ?_
  refine (br_ff (by kernel_rfl) _ _).trans ?_
  refine (cal_of (h1 h) _).trans ?_
  refine (asB_b _ _).trans ?_
  refine (br_f _ _).trans ?_
  refine (cal_of (h2 h) _).trans ?_
  refine (asB_b _ _).trans ?_
  refine (br_f _ _).trans ?_
  rfl
theorem gap_stay {n i c : Nat} {s l : LN} (hi : i < s.length) (hd : s.drop i = c :: l) (st : Still (n + 1) c l) (h : HP) : SF tabA (n + 2) 10 [.str s, iv i] h .no = some (.ret (iv i) h, .no) := by
  rw [SF_succ, find_gap]
  show S10_1b (SF tabA (n + 1)) (n + 1) (nrec (fun _ _ _ => none) (fun _ g => S10_1b (SF tabA (n + 1)) (n + 1) g) n) s (Int.ofNat i) h = _
  exact gap_round hi hd st.ib st.h1 st.h2 h
theorem still_dig {c : Nat} (hc : 48 ≤ c ∧ c ≤ 57) (l : LN) (n : Nat) : Still (n + 10) c l := ⟨ib_dig hc n, hp1_dig hc l n, hp2_dig hc l n⟩
/- number -/
def Digs (s : LN) : Prop := ∀ c ∈ s, 48 ≤ c ∧ c ≤ 57
theorem find_number : tabA.run 21 = S21 := by kernel_rfl
theorem while_dig {n : Nat} {s : LN} (hs : Digs s) (hl : s.length < n + 1) (hn : n + 1 ≤ 100000) (h : HP) : SF tabA (n + 2) 14 [.str s, .fn 19 [] []] h .no = some (.ret (iv s.length) h, .no) :=
  sf_while_all (fun c hc => dig_dig (hs c hc) n h) hl hn
theorem pu_run {n : Nat} {s : LN} (hs : Digs s) (h0 : s ≠ []) (hl : s.length ≤ 10000) (h : HP) : SF tabA (n + 1) 27 [.str s, iv 10, iv 32] h .no = some (.ret (puA h (vlA s 0)).1 (puA h (vlA s 0)).2, .no) := by
  have e : SF tabA (n + 1) 27 [.str s, iv 10, iv 32] h .no = ob (bif dgs s && (nonE s && Nat.ble (lenL s) 10000) then some (puA h (vlA s 0)) else none) fun r => some (.ret r.1 r.2, .no) := by kernel_rfl
  have e1 : nonE s = true := by cases s with | nil => exact absurd rfl h0 | cons a l => rfl
  rw [e, dgs_of hs, e1, lenL_eq, show Nat.ble s.length 10000 = true from by rw [Nat.ble_eq]; exact hl]
  rfl
theorem brV_f (x y : Option AV) : brV false x y = y := rfl
theorem obB_b (b : Bool) (F : Bool → Res2) : obB (some (vB b)) F = F b := rfl
/-- number, up to what ParseUint is asked. -/
theorem num_head {n : Nat} {s : LN} (hs : Digs s) (hl : s.length < n + 1) (hn : n + 1 ≤ 100000) (h : HP) : SF tabA (n + 3) 21 [.str s] h .no =
    cal (SF tabA (n + 2)) 27 [vS s, iv 10, iv 32] h fun t99 h8 =>
     extC t99 0 fun vt100 => asI .u64 vt100 fun t100 =>
     extC t99 1 fun t101 =>
     obB (evP (.eqn .ifc true (.c t101) (.c (.nili : AV))) .leaf) fun t103 =>
     obB (brV t103 (some (vB true)) (some (vB (ltQ (Int.ofNat 10) (Int.ofNat s.length))))) fun t107 =>
     br t107 (some (.ret (.tup [(vI (Int.ofNat 0)), (vI (Int.ofNat 0))]) h8, .no)) (some (.ret (.tup [(vI (Int.ofNat 2)), (vI (Int.ofNat s.length))]) h8, .no)) := by
  rw [SF_succ, find_number]
  show S21_5 (SF tabA (n + 2)) (n + 2) s h = _
  unfold S21_5
  refine (cal_of (while_dig hs hl hn h) _).trans ?_
  show obB (brV (ltQ (Int.ofNat s.length) (Int.ofNat (lenL s))) _ _) _ = _
  rw [lenL_eq, lt_nat, decide_eq_false (by omega), brV_f, obB_b]
  show S21_0 (SF tabA (n + 2)) (n + 2) s (Int.ofNat s.length) (Int.ofNat 2) h = _
  unfold S21_0
  dsimp only
  rw [lenL_eq, lt_nat, decide_eq_false (by omega), br_f]
  show S21_1 (SF tabA (n + 2)) (n + 2) s (Int.ofNat s.length) (Int.ofNat 2) h = _
  unfold S21_1
  dsimp only
  refine (br_ff (by kernel_rfl) _ _).trans ?_
  refine (slC_hi (Nat.le_refl _) _).trans ?_
  rw [List.take_length]
  rfl
theorem num_ok {n : Nat} {s : LN} (hs : Digs s) (h0 : s ≠ []) (hv : vlA s 0 ≤ 4294967295) (h10 : s.length ≤ 10) (hl : s.length < n + 1) (hn : n + 1 ≤ 100000) (h : HP) : SF tabA (n + 3) 21 [.str s] h .no = some (.ret (.tup [iv 2, iv s.length]) h, .no) := by
  rw [num_head hs hl hn h]
  refine (cal_of (pu_run hs h0 (by omega) h) _).trans ?_
  have eA : puA h (vlA s 0) = (.tup [.int .u64 (.ofNat (vlA s 0)), .nili], h) := by
    unfold puA
    rw [show Nat.ble (vlA s 0) 4294967295 = true from by rw [Nat.ble_eq]; exact hv]; rfl
  rw [eA, lt_nat, decide_eq_false (by omega)]
  generalize vlA s 0 = v
  show @Eq Res2 _ _
  kernel_rfl
theorem num_bad {n : Nat} {s : LN} (hs : Digs s) (h0 : s ≠ []) (hv : 4294967295 < vlA s 0) (h10 : s.length ≤ 10000) (hl : s.length < n + 1) (hn : n + 1 ≤ 100000) (h : HP) : SF tabA (n + 3) 21 [.str s] h .no = some (.ret (.tup [iv 0, iv 0]) (HP.newQ h (.cells false [])), .no) := by
  rw [num_head hs hl hn h]
  refine (cal_of (pu_run hs h0 h10 h) _).trans ?_
  have eA : puA h (vlA s 0) = (.tup [.int .u64 (.ofNat 4294967295), .iface 71 (.ptr (HP.nxQ h) 0)], HP.newQ h (.cells false [])) := by
    unfold puA
    rw [show Nat.ble (vlA s 0) 4294967295 = false from by
      cases q : Nat.ble (vlA s 0) 4294967295 with
      | false => rfl
      | true => exact absurd (Nat.le_of_ble_eq_true q) (by omega)]
    rfl
  rw [eA]
  show @Eq Res2 _ _
  kernel_rfl
end
end Go.Proofs.YtlfhnopganplfaaGreatDoor.Lx
