/- Lexing: what the printed functions of the lexer answer at texts left open: words of the evaluator, while, gap, word. -/
import Derived.Test.YtlfhnopganplfaaGreatDoorGu
import Derived.Test.YtlfhnopganplfaaGreatDoorPr
set_option linter.unusedVariables false
set_option linter.unusedSimpArgs false
set_option linter.unusedSectionVars false
namespace Go.Proofs.YtlfhnopganplfaaGreatDoor.Lx
open Go Go.Proofs.YtlfhnopganplfaaGreatDoor.Ev Go.Proofs.YtlfhnopganplfaaGreatDoor.Sx
noncomputable section
abbrev rh : Rho := rhoV 0 ⟨⟨0, 0, 0⟩, ⟨0, 0, 0⟩⟩ rfl
abbrev iv (n : Nat) : AV := AV.int .i64 (Int.ofNat n)
abbrev bv (n : Nat) : AV := AV.int .u8 (Int.ofNat n)
theorem wr_id {z : Int} (h1 : -9223372036854775808 ≤ z) (h2 : z ≤ 9223372036854775807) : wrQ .i64 z = z := by
  rw [wrQ_eq, @wrapF_eq rh]; unfold IntKind.wrap; simp [IntKind.signed, IntKind.bits]; omega
theorem wr_nat {n : Nat} (h : n ≤ 9223372036854775807) : wrQ .i64 (Int.ofNat n) = Int.ofNat n := wr_id (by show -9223372036854775808 ≤ (n : Int); omega) (by show (n : Int) ≤ _; omega)
theorem lt_dec (a b : Int) : ltQ a b = decide (a < b) := by rw [ltQ_eq, @ltF_eq rh]
theorem le_dec (a b : Int) : leQ a b = decide (a ≤ b) := by rw [leQ_eq, @leF_eq rh]
theorem eq_dec (a b : Int) : eqQ a b = decide (a = b) := by rw [eqQ_eq, @eqF_eq rh]; rfl
theorem lt_nat (a b : Nat) : ltQ (Int.ofNat a) (Int.ofNat b) = decide (a < b) := by
  rw [lt_dec]; exact decide_eq_decide.2 Int.ofNat_lt
theorem le_nat (a b : Nat) : leQ (Int.ofNat a) (Int.ofNat b) = decide (a ≤ b) := by
  rw [le_dec]; exact decide_eq_decide.2 Int.ofNat_le
theorem eq_nat (a b : Nat) : eqQ (Int.ofNat a) (Int.ofNat b) = decide (a = b) := by
  rw [eq_dec]; exact decide_eq_decide.2 ⟨fun h => Int.ofNat.inj h, fun h => congrArg _ h⟩
theorem add_nat (a b : Nat) : addQ (Int.ofNat a) (Int.ofNat b) = Int.ofNat (a + b) := rfl
theorem br_t (x y : Res2) : br true x y = x := rfl
theorem br_f (x y : Res2) : br false x y = y := rfl
theorem br_tt {c : Bool} (h : c = true) (x y : Res2) : br c x y = x := by subst h; rfl
theorem br_ff {c : Bool} (h : c = false) (x y : Res2) : br c x y = y := by subst h; rfl
theorem asI_iv (x : Int) (F : Int → Res2) : asI .i64 (vI x) F = F x := rfl
theorem cal_of {D : CallD} {f : Nat} {xs : List AV} {h h' : HP} {v : AV} (e : D f xs h .no = some (.ret v h', .no)) (k : AV → HP → Res2) : cal D f xs h k = k v h' := by
  unfold cal calC; rw [e]; rfl
theorem calC_of {D : CallD} {f : Nat} {xs : List AV} {h h' : HP} {v : AV} (e : D f xs h .no = some (.ret v h', .no)) (k : AV → HP → Res2) (p : Chain → HP → Res2) : calC D f xs h k p = k v h' := by
  unfold calC; rw [e]; rfl
theorem calC_pan {D : CallD} {f : Nat} {xs : List AV} {h h' : HP} {c : Chain} (e : D f xs h .no = some (.pan c h', .no)) (k : AV → HP → Res2) (p : Chain → HP → Res2) : calC D f xs h k p = p c h' := by
  unfold calC; rw [e]; rfl
theorem ex_tr {X Y : Res2} {v : AV} (e : X = Y) (h : ∃ h2, Y = some (.ret v h2, .no)) : ∃ h2, X = some (.ret v h2, .no) := by rw [e]; exact h
theorem SF_succ (t : ST) (n f : Nat) (xs : List AV) (h : HP) (u : AMode) : SF t (n + 1) f xs h u = t.run f (SF t n) n xs h u := rfl
/- Strings. -/
theorem ixC_s {s : LN} {i c : Nat} (h : s[i]? = some c) (F : AV → Res2) : ixC (vS s) (vI (Int.ofNat i)) F = F (bv c) := by
  show obQ (nth s i) (fun c => F (.int .u8 (.ofNat c))) = _
  rw [nth_eq, h]; rfl
theorem slC_lo {s : LN} {i : Nat} (h : i ≤ s.length) (F : AV → Res2) : slC (vS s) (some (vI (Int.ofNat i))) none F = F (vS (s.drop i)) := by
  show (Bool.rec none (F (.str (dropN i s))) (Nat.ble i (lenL s)) : Res2) = _
  rw [lenL_eq, show Nat.ble i s.length = true from by rw [Nat.ble_eq]; exact h, dropN_eq]
  rfl
theorem takeN_is {α : Type} : ∀ (n : Nat) (l : List α), n ≤ l.length → takeN n l = some (l.take n)
  | 0, l, _ => by rw [takeN_zero]; rfl
  | n + 1, [], h => by simp at h
  | n + 1, a :: l, h => by rw [takeN_cons, takeN_is n l (by simpa using h)]; rfl
theorem slC_hi {s : LN} {i : Nat} (h : i ≤ s.length) (F : AV → Res2) : slC (vS s) none (some (vI (Int.ofNat i))) F = F (vS (s.take i)) := by
  show (Bool.rec none (Bool.rec none (obQ (takeN (Nat.sub i 0) (dropN 0 s)) fun r => F (.str r)) (Nat.ble 0 i)) (Nat.ble i (lenL s)) : Res2) = _
  rw [lenL_eq, show Nat.ble i s.length = true from by rw [Nat.ble_eq]; exact h, dropN_eq, show Nat.sub i 0 = i from rfl, List.drop_zero, takeN_is i s h]
  rfl
/- while -/
theorem while_loop {D : CallD} {f : Nat} {s : LN} {h : HP} {p : Nat → Bool} (hD : ∀ c ∈ s, D f [bv c] h .no = some (.ret (vB (p c)) h, .no)) (hs : s.length ≤ 100000) (M : Nat) : ∀ m i, i ≤ s.length → s.length - i < m →
    nrec (fun _ _ _ _ => none) (fun _ g => S14_1b D M g) m s (.fn f [] []) (Int.ofNat i) h = some (.ret (iv (i + ((s.drop i).takeWhile p).length)) h, .no) := by
  intro m
  induction m with
  | zero => intro i _ h; omega
  | succ m ih =>
    intro i h1 h2
    show S14_1b D M (nrec (fun _ _ _ _ => none) (fun _ g => S14_1b D M g) m) s (.fn f [] []) (Int.ofNat i) h = _
    unfold S14_1b
    dsimp only
    rw [lenL_eq, lt_nat]
    by_cases g : i < s.length
    · rw [decide_eq_true g, br_t, ixC_s (List.getElem?_eq_getElem g)]
      show calC D f [bv s[i]] h (fun t15 h6 => asB t15 fun t15a => S14_3 D M _ s (.fn f [] []) (Int.ofNat i) t15a h6) panN = _
      rw [calC_of (hD _ (List.getElem_mem g))]
      show S14_3 D M _ s (.fn f [] []) (Int.ofNat i) (p s[i]) h = _
      unfold S14_3
      rw [List.drop_eq_getElem_cons g]
      cases e : p s[i] with
      | true =>
        rw [br_t]
        unfold S14_2
        show nrec (fun _ _ _ _ => none) (fun _ g => S14_1b D M g) m s (.fn f [] []) (wrQ .i64 (Int.ofNat (i + 1))) h = _
        rw [wr_nat (by omega), ih (i + 1) (by omega) (by omega), List.takeWhile_cons_of_pos e]
        simp only [List.length_cons]
        rw [show i + 1 + ((s.drop (i + 1)).takeWhile p).length = i + (((s.drop (i + 1)).takeWhile p).length + 1) by omega]
      | false =>
        rw [br_f, List.takeWhile_cons_of_neg (by rw [e]; decide)]
        rfl
    · rw [decide_eq_false g, br_f]
      have : i = s.length := by omega
      subst this
      rw [List.drop_length]
      rfl
theorem find_while : tabA.run 14 = S14 := by kernel_rfl
theorem sf_while {n f : Nat} {s : LN} {h : HP} {p : Nat → Bool} (hD : ∀ c ∈ s, SF tabA n f [bv c] h .no = some (.ret (vB (p c)) h, .no)) (hs : s.length < n) (hn : n ≤ 100000) : SF tabA (n + 1) 14 [.str s, .fn f [] []] h .no = some (.ret (iv (s.takeWhile p).length) h, .no) := by
  rw [SF_succ, find_while]
  show S14_1 (SF tabA n) n s (.fn f [] []) (Int.ofNat 0) h = _
  unfold S14_1
  rw [while_loop hD (by omega) n n 0 (by omega) (by omega)]
  simp
theorem tw_true (s : LN) : s.takeWhile (fun _ => true) = s := by
  induction s with
  | nil => rfl
  | cons a l ih => rw [List.takeWhile_cons_of_pos rfl, ih]
theorem sf_while_all {n f : Nat} {s : LN} {h : HP} (hD : ∀ c ∈ s, SF tabA n f [bv c] h .no = some (.ret (vB true) h, .no)) (hs : s.length < n) (hn : n ≤ 100000) : SF tabA (n + 1) 14 [.str s, .fn f [] []] h .no = some (.ret (iv s.length) h, .no) := by
  rw [sf_while (p := fun _ => true) hD hs hn]
  rw [tw_true]
/- word -/
def wordsL : List LN := [[105, 110, 116], [100, 111, 117, 98, 108, 101], [118, 111, 105, 100], [115, 116, 97, 116, 105, 99], [101, 120, 116, 101, 114, 110], [105, 102], [101, 108, 115, 101], [119, 104, 105, 108, 101], [114, 101, 116, 117, 114, 110], [98, 114, 101, 97, 107], [99, 111, 110, 116, 105, 110, 117, 101]]
def isW (s : LN) : Bool := wordsL.contains s
theorem find_word : tabA.run 20 = S20 := by kernel_rfl
theorem sf_word (n : Nat) (s : LN) (h : HP) : SF tabA (n + 1) 20 [.str s] h .no = some (.ret (vB (isW s)) h, .no) := by
  rw [SF_succ, find_word]
  show S20_2 (SF tabA n) n s h = _
  unfold S20_2
  simp only [eqL_eq]
  by_cases w0 : s = [105, 110, 116]
  · subst w0; rfl
  rw [decide_eq_false w0, br_f]
  by_cases w1 : s = [100, 111, 117, 98, 108, 101]
  · subst w1; rfl
  rw [decide_eq_false w1, br_f]
  by_cases w2 : s = [118, 111, 105, 100]
  · subst w2; rfl
  rw [decide_eq_false w2, br_f]
  by_cases w3 : s = [115, 116, 97, 116, 105, 99]
  · subst w3; rfl
  rw [decide_eq_false w3, br_f]
  by_cases w4 : s = [101, 120, 116, 101, 114, 110]
  · subst w4; rfl
  rw [decide_eq_false w4, br_f]
  by_cases w5 : s = [105, 102]
  · subst w5; rfl
  rw [decide_eq_false w5, br_f]
  by_cases w6 : s = [101, 108, 115, 101]
  · subst w6; rfl
  rw [decide_eq_false w6, br_f]
  by_cases w7 : s = [119, 104, 105, 108, 101]
  · subst w7; rfl
  rw [decide_eq_false w7, br_f]
  by_cases w8 : s = [114, 101, 116, 117, 114, 110]
  · subst w8; rfl
  rw [decide_eq_false w8, br_f]
  by_cases w9 : s = [98, 114, 101, 97, 107]
  · subst w9; rfl
  rw [decide_eq_false w9, br_f]
  by_cases w10 : s = [99, 111, 110, 116, 105, 110, 117, 101]
  · subst w10; rfl
  rw [decide_eq_false w10]
  have : isW s = false := by
    unfold isW wordsL
    simp [w0, w1, w2, w3, w4, w5, w6, w7, w8, w9, w10]
  rw [this]
  rfl
end
end Go.Proofs.YtlfhnopganplfaaGreatDoor.Lx
