/- LexNumbers: the law's printed function. -/
import Derived.Test.YtlfhnopganplfaaGreatDoorLd
set_option linter.unusedVariables false
set_option linter.unusedSimpArgs false
set_option linter.unusedSectionVars false
set_option maxRecDepth 20000
namespace Go.Proofs.YtlfhnopganplfaaGreatDoor.Lx
open Go Go.Proofs.YtlfhnopganplfaaGreatDoor.Ev Go.Proofs.YtlfhnopganplfaaGreatDoor.Sx
noncomputable section
theorem T_set_same {α : Type} (x : α) (p : Pos) (t : T α) : T.get p (T.set x p t) = some x := T.get_set_same x p t
theorem get_newQ (h : HP) (k : Blk) : HP.get (HP.newQ h k) (HP.nxQ h) = some k := by
  letI := rh
  rw [HP.newQ_eq, HP.nxQ_eq, HP.get_new, if_pos rfl]
theorem vlA_add : ∀ (s : LN) (a : Nat), vlA s a = a * 10 ^ s.length + vlA s 0
  | [], a => by show a = a * 10 ^ 0 + 0; omega
  | c :: s, a => by
    rw [vlA_cons, vlA_cons, vlA_add s (a * 10 + (c - 48)), vlA_add s (0 * 10 + (c - 48)), List.length_cons, Nat.pow_succ, Nat.add_mul, Nat.zero_mul, Nat.zero_add, Nat.mul_assoc, Nat.mul_comm 10]
    omega
/-- The number's text so far. -/
structure Sofar (k x : Nat) (s : LN) : Prop where
  dg : Digs s
  sum : vlA s 0 + x * 10 ^ s.length = k
  top : s.length ≤ 1 ∨ 0 < x ∨ 10 ^ (s.length - 1) ≤ k
theorem Sofar.next {k x : Nat} {s : LN} (f : Sofar k x s) (hx : 0 < x ∨ s = []) : Sofar k (x / 10) ((48 + x % 10) :: s) := by
  obtain ⟨h1, h2, h3⟩ := f
  refine ⟨fun c hc => ?_, ?_, ?_⟩
  · rcases List.mem_cons.1 hc with rfl | hc
    · omega
    · exact h1 c hc
  · rw [vlA_cons, vlA_add, List.length_cons, Nat.pow_succ, ← h2]
    have e : x = 10 * (x / 10) + x % 10 := by omega
    have e2 : 48 + x % 10 - 48 = x % 10 := by omega
    rw [e2]
    generalize x / 10 = q at *
    generalize x % 10 = r at *
    subst e
    generalize 10 ^ s.length = P
    have a1 : q * (P * 10) = 10 * q * P := by rw [Nat.mul_comm P 10, ← Nat.mul_assoc, Nat.mul_comm q 10]
    have a2 : (10 * q + r) * P = 10 * q * P + r * P := Nat.add_mul _ _ _
    have a3 : (0 * 10 + r) * P = r * P := by rw [Nat.zero_mul, Nat.zero_add]
    rw [a1, a2, a3]
    generalize 10 * q * P = u
    generalize r * P = v
    omega
  · rw [List.length_cons]
    rcases Nat.eq_zero_or_pos (x / 10) with z | z
    · rcases hx with hx | hx
      · right; right
        have : 10 ^ s.length ≤ x * 10 ^ s.length := Nat.le_mul_of_pos_left _ hx
        show 10 ^ (s.length + 1 - 1) ≤ k
        rw [Nat.add_sub_cancel]; omega
      · left; subst hx; simp
    · right; left; exact z
theorem wf_u8 {n : Nat} (h : n ≤ 255) : wrapF .u8 (Int.ofNat n) = Int.ofNat n := by
  rw [@wrapF_eq rh]; unfold IntKind.wrap; simp [IntKind.signed, IntKind.bits]; omega
theorem wf_i64 {n : Nat} (h : n ≤ 9223372036854775807) : wrapF .i64 (Int.ofNat n) = Int.ofNat n := by
  rw [@wrapF_eq rh]; unfold IntKind.wrap; simp [IntKind.signed, IntKind.bits]; omega
theorem obB_b' (b : Bool) (F : Bool → Res2) : obB (some (vB b)) F = F b := rfl
theorem brV_t (x y : Option AV) : brV true x y = x := rfl
theorem obS_s (s : LN) (F : LN → Res2) : obS (some (.str s)) F = F s := rfl
theorem strAdd {a b : LN} (h : a.length + b.length ≤ 9223372036854775807) : strBin .add a b = some (.str (a ++ b)) := by
  show (bif Nat.ble (Nat.add (lenL a) (lenL b)) 9223372036854775807 then some (AV.str (cat a b)) else none) = _
  rw [lenL_eq, lenL_eq, show Nat.ble (Nat.add a.length b.length) 9223372036854775807 = true from by rw [Nat.ble_eq]; exact h, cat_eq]
  rfl
theorem bstr_one (h : HP) {c : Nat} (hc : c ≤ 255) : bstrV (AV.slice (HP.nxQ h) 0 1 (.exact 1)) (HP.newQ h (.cells true [bv c])) = some (.str [c]) := by
  have e : bstrV (AV.slice (HP.nxQ h) 0 1 (.exact 1)) (HP.newQ h (.cells true [bv c])) = ob (HP.get (HP.newQ h (.cells true [bv c])) (HP.nxQ h)) fun k => match k with | .cells wr vs => ob (takeN 1 (dropN 0 vs)) fun r => ob (bytesOf r) fun l => some (.str l) | _ => none := by rfl
  rw [e, get_newQ]
  show ob (ob (bif Nat.ble c 255 then some c else none) fun x => some [x]) (fun l => some (AV.str l)) = _
  rw [show Nat.ble c 255 = true from by rw [Nat.ble_eq]; exact hc]
  rfl
/-- The law's own text of a number. -/
theorem text_loop (D : CallD) (M k : Nat) (hk : k < 17179869184) : ∀ j mm s x h, (s ≠ [] ∨ 0 < j) → x < 10 ^ j → j < mm → Sofar k x s → s.length + j ≤ 11 →
    ∃ s' h', nrec (fun _ _ _ _ => none) (fun _ g => S4_1b D M g) mm (Int.ofNat k) s (Int.ofNat x) h = S4_0 D M (Int.ofNat k) s' h' ∧ s' ≠ [] ∧ Sofar k 0 s' ∧ s'.length ≤ 11 := by
  intro j
  induction j with
  | zero =>
    intro mm s x h h1 h2 h3 f hl
    have hx : x = 0 := by simpa using h2
    subst hx
    have hs : s ≠ [] := h1.resolve_right (by omega)
    obtain ⟨mm, rfl⟩ : ∃ q, mm = q + 1 := ⟨mm - 1, by omega⟩
    refine ⟨s, h, ?_, hs, f, by omega⟩
    show S4_1b D M (nrec (fun _ _ _ _ => none) (fun _ g => S4_1b D M g) mm) (Int.ofNat k) s (Int.ofNat 0) h = _
    unfold S4_1b
    dsimp only
    rw [lt_nat, decide_eq_false (by omega), brV_f, eqL_eq, decide_eq_false hs, obB_b', br_f]
  | succ j ih =>
    intro mm s x h h1 h2 h3 f hl
    obtain ⟨mm, rfl⟩ : ∃ q, mm = q + 1 := ⟨mm - 1, by omega⟩
    by_cases g : 0 < x ∨ s = []
    · obtain ⟨s', h', e, r⟩ := ih mm ((48 + x % 10) :: s) (x / 10) (HP.newQ h (.cells true [bv (48 + x % 10)])) (.inl (by simp)) (by rw [Nat.pow_succ] at h2; omega) (by omega) (f.next g) (by simp; omega)
      refine ⟨s', h', ?_, r⟩
      rw [← e]
      show S4_1b D M (nrec (fun _ _ _ _ => none) (fun _ g => S4_1b D M g) mm) (Int.ofNat k) s (Int.ofNat x) h = _
      unfold S4_1b
      have t : (brV (ltQ (Int.ofNat 0) (Int.ofNat x)) (some (vB true)) (some (vB (eqL s [])))) = some (vB true) := by
        rw [lt_nat]
        rcases g with g | g
        · rw [decide_eq_true g]; rfl
        · subst g; cases decide (0 < x) <;> rfl
      have hxk : x ≤ k := by
        have := f.sum
        have p : 0 < 10 ^ s.length := Nat.pow_pos (by omega)
        have : x ≤ x * 10 ^ s.length := Nat.le_mul_of_pos_right _ p
        omega
      have t27 : wrapF .u8 (wrQ .i64 (addQ (Int.ofNat 48) (Int.tmod (Int.ofNat x) (Int.ofNat 10)))) = Int.ofNat (48 + x % 10) := by
        rw [show Int.tmod (Int.ofNat x) (Int.ofNat 10) = Int.ofNat (x % 10) from rfl, add_nat, wr_nat (by omega), wf_u8 (by omega)]
      have t23 : wrapF .i64 (Int.tdiv (Int.ofNat x) (Int.ofNat 10)) = Int.ofNat (x / 10) := by
        rw [show Int.tdiv (Int.ofNat x) (Int.ofNat 10) = Int.ofNat (x / 10) from rfl, wf_i64 (by omega)]
      dsimp only
      rw [t, obB_b', br_t, t27, t23]
      show obS (bstrV (AV.slice (HP.nxQ h) 0 1 (.exact 1)) (HP.newQ h (.cells true [bv (48 + x % 10)]))) _ = _
      rw [bstr_one h (by omega), obS_s, strAdd (by simp; omega), obS_s]
      rfl
    · have hx : x = 0 := by omega
      have hs : s ≠ [] := fun e => g (.inr e)
      subst hx
      refine ⟨s, h, ?_, hs, f, by omega⟩
      show S4_1b D M (nrec (fun _ _ _ _ => none) (fun _ g => S4_1b D M g) mm) (Int.ofNat k) s (Int.ofNat 0) h = _
      unfold S4_1b
      dsimp only
      rw [lt_nat, decide_eq_false (by omega), brV_f, eqL_eq, decide_eq_false hs, obB_b', br_f]
/-- The two cells of a new block that the law compares. -/
theorem cells_new (h : HP) (K : Nat) (s : LN) (F : AV → Option AV) : cellsCV 3 (.ptr (HP.nxQ h) 0) (HP.newQ h (.cells true (okV K s))) F = F (tokV K s) := by
  have e : ∀ o : Option Blk, (obQV o fun k => Blk.rec (motive := fun _ => Nat → Nat → (AV → Option AV) → Option AV) (fun wr vs n o f => obQV (takeN n (dropN o vs)) fun r => f (.agg r)) (fun _ _ _ _ _ => none) (fun _ _ _ _ _ => none) (fun _ _ _ _ _ => none) k 3 0 F) = obQV o fun k => Blk.rec (motive := fun _ => Nat → Nat → (AV → Option AV) → Option AV) (fun wr vs n o f => obQV (takeN n (dropN o vs)) fun r => f (.agg r)) (fun _ _ _ _ _ => none) (fun _ _ _ _ _ => none) (fun _ _ _ _ _ => none) k 3 0 F := fun _ => rfl
  rw [cellsCV_eq]
  have : cellsV 3 (.ptr (HP.nxQ h) 0) (HP.newQ h (.cells true (okV K s))) = ob (HP.get (HP.newQ h (.cells true (okV K s))) (HP.nxQ h)) fun k => match k with | .cells _ vs => ob (takeN 3 (dropN 0 vs)) fun r => some (.agg r) | _ => none := rfl
  rw [this, get_newQ]
  rfl
theorem eqs_tok (K : Nat) (s : LN) : evP (.eqs 3 [(0, .int), (1, .str), (2, .int)] false (.c (tokV K s)) (.c (tokV K s))) .leaf = some (.bool true) := by
  have e : evP (.eqs 3 [(0, .int), (1, .str), (2, .int)] false (.c (tokV K s)) (.c (tokV K s))) .leaf = ob (bif Nat.beq K K then (bif eqL s s then some true else some false) else some false) fun c => some (AV.bool (c != false)) := by kernel_rfl
  rw [e, show Nat.beq K K = true by rw [Nat.beq_eq], eqL_eq, decide_eq_true rfl]
  rfl
end
end Go.Proofs.YtlfhnopganplfaaGreatDoor.Lx
