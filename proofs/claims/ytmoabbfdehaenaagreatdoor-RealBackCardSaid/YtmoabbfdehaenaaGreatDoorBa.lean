/- strconv.FormatUint at base 16, at a word left open. -/
import Derived.Test.YtmoabbfdehaenaaGreatDoorOp
set_option linter.unusedVariables false
set_option linter.unusedSimpArgs false
set_option linter.unusedSectionVars false
set_option maxRecDepth 20000
namespace Go.Proofs.YtmoabbfdehaenaaGreatDoor.Lx
open Go Go.Proofs.YtmoabbfdehaenaaGreatDoor.Ev Go.Proofs.YtmoabbfdehaenaaGreatDoor.Sx
noncomputable section
/-- A digit's byte. -/
def hc (d : Nat) : Nat := if d < 10 then 48 + d else 87 + d
/-- Digits, the low ones first written. -/
def hexA : Nat → Nat → LN → LN
  | 0, x, acc => hc x :: acc
  | j + 1, x, acc => if 16 ≤ x then hexA j (x / 16) (hc (x % 16) :: acc) else hc x :: acc
def hexL (x : Nat) : LN := hexA 15 x []
def d36 : LN := [48, 49, 50, 51, 52, 53, 54, 55, 56, 57, 97, 98, 99, 100, 101, 102, 103, 104, 105, 106, 107, 108, 109, 110, 111, 112, 113, 114, 115, 116, 117, 118, 119, 120, 121, 122]
theorem d36_get : ∀ d, d < 16 → d36[d]? = some (hc d) := by decide
theorem hc_le {d : Nat} (h : d < 16) : hc d ≤ 255 := by unfold hc; split <;> omega
theorem ixC_u {s : LN} {i c : Nat} (h : s[i]? = some c) (F : AV → Res2) : ixC (vS s) (AV.int .u64 (Int.ofNat i)) F = F (bv c) := by
  show obQ (nth s i) (fun c => F (.int .u8 (.ofNat c))) = _
  rw [nth_eq, h]; rfl
theorem fits64 {k : Nat} (h : k < 18446744073709551616) : wrapF .u64 (Int.ofNat k) = Int.ofNat k := by
  rw [@wrapF_eq rh]; unfold IntKind.wrap; simp [IntKind.signed, IntKind.bits]; omega
theorem obI_u (x : Int) (F : Int → Res2) : obI .u64 (some (AV.int .u64 x)) F = F x := rfl
theorem and15 {x : Nat} (hx : x < 18446744073709551616) : intBin .and .u64 (Int.ofNat x) (Int.ofNat 15) = some (AV.int .u64 (Int.ofNat (x % 16))) := by
  have e : intBin .and .u64 (Int.ofNat x) (Int.ofNat 15) = some (AV.int .u64 (wrapF .u64 (Int.ofNat (Nat.land x 15)))) := by kernel_rfl
  have e2 : Nat.land x 15 = x % 16 := Nat.and_two_pow_sub_one_eq_mod x 4
  rw [e, e2, fits64 (by omega)]
theorem shr4 (x : Nat) : shiftF .shr .u64 (Int.ofNat x) (Int.ofNat 4) = some (AV.int .u64 (Int.ofNat (x / 16))) := by
  have e : shiftF .shr .u64 (Int.ofNat x) (Int.ofNat 4) = some (AV.int .u64 ((Int.ofNat x).fdiv 16)) := by kernel_rfl
  rw [e, Int.fdiv_eq_ediv_of_nonneg _ (by decide)]
  rfl
theorem iar_at {p : Pos} {i : Nat} (h : i < 65) (F : AV → Res2) : iarC 65 1 (.ptr p 0) (vI (Int.ofNat i)) F = F (.ptr p i) := by
  show (Bool.rec none (F (.ptr p (Nat.add 0 (Nat.mul i 1)))) (Nat.ble (i + 1) 65) : Res2) = _
  rw [show Nat.ble (i + 1) 65 = true from by rw [Nat.ble_eq]; omega, show Nat.add 0 (Nat.mul i 1) = i from by show 0 + i * 1 = i; omega]
theorem pred {i : Nat} (h : 0 < i) (h2 : i ≤ 65) : wrQ .i64 (Int.ofNat i - Int.ofNat 1) = Int.ofNat (i - 1) := by
  rw [show (Int.ofNat i - Int.ofNat 1 : Int) = Int.ofNat (i - 1) from by show (i : Int) - 1 = ((i - 1 : Nat) : Int); omega, wr_nat (by omega)]
/-- What the array holds. -/
def Arr (h : HP) (p : Pos) (i : Nat) (acc : LN) : Prop := ∃ A : List AV, A.length = i ∧ HP.get h p = some (.cells true (A ++ acc.map bv))
theorem arr_put2 {h : HP} {p : Pos} {i : Nat} {acc : LN} (a : Arr h p i acc) (hi : 0 < i) (c : Nat) : ∃ h', (∀ F : HP → Res2, stoC (.ptr p (i - 1)) (bv c) h F = F h') ∧ Arr h' p (i - 1) (c :: acc) := by
  obtain ⟨A, hA, g⟩ := a
  obtain ⟨B, x, rfl⟩ : ∃ B x, A = B ++ [x] := by
    refine ⟨A.dropLast, A.getLast (by intro e; subst e; simp at hA; omega), (List.dropLast_concat_getLast _).symm⟩
  have hB : B.length = i - 1 := by simp at hA; omega
  rw [List.append_assoc] at g
  refine ⟨_, fun F => sto_at hB g rfl F, B, hB, ?_⟩
  rw [getP, if_pos rfl]
  rfl
section
variable (D : CallD) (M : Nat) (p : Pos)
theorem fmt_loop : ∀ j mm x i acc h, x < 16 ^ (j + 1) → x < 18446744073709551616 → j < i → i ≤ 65 → j < mm → Arr h p i acc →
    ∃ x' i' acc' h', nrec (fun _ _ _ _ _ _ _ _ _ _ _ _ => none) (fun _ g => S63_5b D M g) mm .nils (Int.ofNat x) false false .nils [] (.ptr p 0) (Int.ofNat i) (Int.ofNat 4) (Int.ofNat 16) (Int.ofNat 15) h = S63_4 D M .nils (Int.ofNat x') false false .nils [] (.ptr p 0) (Int.ofNat i') h' ∧
      x' < 16 ∧ Arr h' p i' acc' ∧ hc x' :: acc' = hexA j x acc ∧ i' + acc'.length = i + acc.length ∧ 0 < i' ∧ i' ≤ 65 := by
  intro j
  induction j with
  | zero =>
    intro mm x i acc h h1 hx h2 h3 h4 a
    obtain ⟨mm, rfl⟩ : ∃ q, mm = q + 1 := ⟨mm - 1, by omega⟩
    refine ⟨x, i, acc, h, ?_, by omega, a, rfl, rfl, by omega, h3⟩
    show S63_5b D M (nrec (fun _ _ _ _ _ _ _ _ _ _ _ _ => none) (fun _ g => S63_5b D M g) mm) .nils (Int.ofNat x) false false .nils [] (.ptr p 0) (Int.ofNat i) (Int.ofNat 4) (Int.ofNat 16) (Int.ofNat 15) h = _
    unfold S63_5b
    try dsimp only
    rw [le_nat, decide_eq_false (by omega), br_f]
  | succ j ih =>
    intro mm x i acc h h1 hx h2 h3 h4 a
    obtain ⟨mm, rfl⟩ : ∃ q, mm = q + 1 := ⟨mm - 1, by omega⟩
    by_cases g : 16 ≤ x
    · obtain ⟨h9, st, a9⟩ := arr_put2 a (by omega) (hc (x % 16))
      obtain ⟨x', i', acc', h', e, q1, q2, q3, q4, q5, q6⟩ := ih mm (x / 16) (i - 1) (hc (x % 16) :: acc) h9 (by rw [Nat.pow_succ] at h1; omega) (by omega) (by omega) (by omega) (by omega) a9
      refine ⟨x', i', acc', h', ?_, q1, q2, ?_, by simp at q4; omega, q5, q6⟩
      · rw [← e]
        show S63_5b D M (nrec (fun _ _ _ _ _ _ _ _ _ _ _ _ => none) (fun _ g => S63_5b D M g) mm) .nils (Int.ofNat x) false false .nils [] (.ptr p 0) (Int.ofNat i) (Int.ofNat 4) (Int.ofNat 16) (Int.ofNat 15) h = _
        unfold S63_5b
        try dsimp only
        rw [le_nat, decide_eq_true g, br_t, pred (by omega) h3, and15 hx]
        refine (obI_u _ _).trans ?_
        refine (ixC_u (d36_get (x % 16) (by omega)) _).trans ?_
        refine (asI_b _ _).trans ?_
        refine (iar_at (by omega) _).trans ?_
        refine (st _).trans ?_
        rw [shr4]
        exact obI_u _ _
      · rw [q3]
        show _ = (if 16 ≤ x then hexA j (x / 16) (hc (x % 16) :: acc) else hc x :: acc)
        rw [if_pos g]
    · refine ⟨x, i, acc, h, ?_, by omega, a, ?_, rfl, by omega, h3⟩
      · show S63_5b D M (nrec (fun _ _ _ _ _ _ _ _ _ _ _ _ => none) (fun _ g => S63_5b D M g) mm) .nils (Int.ofNat x) false false .nils [] (.ptr p 0) (Int.ofNat i) (Int.ofNat 4) (Int.ofNat 16) (Int.ofNat 15) h = _
        unfold S63_5b
        try dsimp only
        rw [le_nat, decide_eq_false g, br_f]
      · show _ = (if 16 ≤ x then hexA j (x / 16) (hc (x % 16) :: acc) else hc x :: acc)
        rw [if_neg g]
end
theorem hexA_le : ∀ j x acc, x < 16 ^ (j + 1) → (∀ c ∈ acc, c ≤ 255) → ∀ c ∈ hexA j x acc, c ≤ 255
  | 0, x, acc, h, ha => by
    intro c hc'
    rcases List.mem_cons.1 hc' with rfl | q
    · exact hc_le (by omega)
    · exact ha c q
  | j + 1, x, acc, h, ha => by
    show ∀ c ∈ (if 16 ≤ x then hexA j (x / 16) (hc (x % 16) :: acc) else hc x :: acc), c ≤ 255
    by_cases g : 16 ≤ x
    · rw [if_pos g]
      refine hexA_le j _ _ (by rw [Nat.pow_succ] at h; omega) fun c hc' => ?_
      rcases List.mem_cons.1 hc' with rfl | q
      · exact hc_le (by omega)
      · exact ha c q
    · rw [if_neg g]
      intro c hc'
      rcases List.mem_cons.1 hc' with rfl | q
      · exact hc_le (by omega)
      · exact ha c q
end
end Go.Proofs.YtmoabbfdehaenaaGreatDoor.Lx
