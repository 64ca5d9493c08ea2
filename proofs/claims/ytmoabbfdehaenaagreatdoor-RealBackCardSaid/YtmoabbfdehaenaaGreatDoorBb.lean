/- real.Hex, at bits left open: as a function whose answer is known. -/
import Derived.Test.YtmoabbfdehaenaaGreatDoorBa
set_option linter.unusedVariables false
set_option linter.unusedSimpArgs false
set_option linter.unusedSectionVars false
set_option maxRecDepth 20000
namespace Go.Proofs.YtmoabbfdehaenaaGreatDoor.Lx
open Go Go.Proofs.YtmoabbfdehaenaaGreatDoor.Ev Go.Proofs.YtmoabbfdehaenaaGreatDoor.Sx
noncomputable section
theorem arr_str {h : HP} {p : Pos} {i : Nat} {acc : LN} (a : Arr h p i acc) (hi : i + acc.length = 65) (h65 : i < 65) (hs : ∀ c ∈ acc, c ≤ 255) (F : LN → Res2) :
    (obQ (evP (.slice (.arr 65 1) (.c (.ptr p 0)) (some (.c (vI (Int.ofNat i)))) none none) .leaf) fun t100 => obS (bstrV t100 h) F) = F acc := by
  obtain ⟨A, hA, g⟩ := a
  have e : evP (.slice (.arr 65 1) (.c (.ptr p 0)) (some (.c (vI (Int.ofNat i)))) none none) .leaf = cutSl 1 0 65 p (.exact 65) i 65 none := by kernel_rfl
  have e2 : cutSl 1 0 65 p (.exact 65) i 65 none = some (.slice p (0 + i * 1) (65 - i) (.exact (65 - i))) := by
    unfold cutSl
    simp [show i ≤ 65 by omega]
    omega
  rw [e, e2, show 0 + i * 1 = i by omega]
  have e3 : bstrV (.slice p i (65 - i) (.exact (65 - i))) h = ob (HP.get h p) fun k => match k with | .cells _ vs => ob (takeN (65 - i) (dropN i vs)) fun r => ob (bytesOf r) fun l => some (.str l) | _ => none := rfl
  show obS (bstrV (.slice p i (65 - i) (.exact (65 - i))) h) F = _
  rw [e3, g]
  show obS (ob (takeN (65 - i) (dropN i (A ++ acc.map bv))) _) F = _
  rw [dropN_eq, List.drop_append_of_le_length (by omega), List.drop_eq_nil_of_le (by omega), List.nil_append, takeN_is (65 - i) (acc.map bv) (by simp; omega), List.take_of_length_le (by simp; omega)]
  show obS (ob (bytesOf (acc.map bv)) _) F = _
  rw [bytes_is acc hs]
  rfl
theorem find63 : tabA.run 63 = S63 := by kernel_rfl
theorem sf_bits16 (m : Int) {x : Nat} (hx : x < 18446744073709551616) : ∃ h', SF tabA 897 63 [.nils, uv x, iv 16, .bool false, .bool false] (gH m) .no = some (.ret (.tup [.nils, .str (hexL x)]) h', .no) := by
  rw [SF_succ, find63]
  show ∃ h', S63_8 (SF tabA 896) 896 .nils (Int.ofNat x) (Int.ofNat 16) false false (gH m) = _
  have e0 : S63_8 (SF tabA 896) 896 .nils (Int.ofNat x) (Int.ofNat 16) false false (gH m) = nrec (fun _ _ _ _ _ _ _ _ _ _ _ _ => none) (fun _ g => S63_5b (SF tabA 896) 896 g) 896 .nils (Int.ofNat x) false false .nils [] (.ptr (HP.nxQ (gH m)) 0) (Int.ofNat 65) (Int.ofNat 4) (Int.ofNat 16) (Int.ofNat 15) (HP.newQ (gH m) (.cells true (List.replicate 65 (bv 0)))) := by kernel_rfl
  have a0 : Arr (HP.newQ (gH m) (.cells true (List.replicate 65 (bv 0)))) (HP.nxQ (gH m)) 65 [] := ⟨List.replicate 65 (bv 0), by simp, by rw [getN, if_pos rfl]; simp⟩
  obtain ⟨x', i', acc', h', e, q1, q2, q3, q4, q5, q6⟩ := fmt_loop (SF tabA 896) 896 (HP.nxQ (gH m)) 15 896 x 65 [] _ (by rw [show (16 : Nat) ^ (15 + 1) = 18446744073709551616 by decide]; exact hx) hx (by omega) (by omega) (by omega) a0
  obtain ⟨h9, st, a9⟩ := arr_put2 q2 q5 (hc x')
  have hle := hexA_le 15 x [] (by rw [show (16 : Nat) ^ (15 + 1) = 18446744073709551616 by decide]; exact hx) (fun c hc' => by simp at hc')
  refine ⟨h9, ?_⟩
  rw [e0, e]
  unfold S63_4
  try dsimp only
  rw [pred q5 q6]
  refine (ixC_u (d36_get x' q1) _).trans ?_
  refine (asI_b _ _).trans ?_
  refine (iar_at (by omega) _).trans ?_
  refine (st _).trans ?_
  unfold S63_2
  refine (br_f _ _).trans ?_
  unfold S63_3
  refine (br_f _ _).trans ?_
  refine (arr_str a9 (by simp at q4 ⊢; omega) (by omega) (by rw [q3]; exact hle) _).trans ?_
  rw [q3]
  rfl
theorem find43 : tabA.run 43 = S43 := by kernel_rfl
theorem find28 : tabA.run 28 = S28 := by kernel_rfl
theorem sf_fmt (m : Int) {x : Nat} (hx : x < 18446744073709551616) : ∃ h', SF tabA 899 28 [uv x, iv 16] (gH m) .no = some (.ret (.str (hexL x)) h', .no) := by
  obtain ⟨h', e⟩ := sf_bits16 m hx
  refine ⟨h', ?_⟩
  rw [SF_succ, find28]
  show S28_0 (SF tabA 898) 898 (Int.ofNat x) (Int.ofNat 16) (gH m) = _
  unfold S28_0
  have e2 : SF tabA 898 43 [uv x, iv 16] (gH m) .no = some (.ret (.str (hexL x)) h', .no) := by
    rw [SF_succ, find43]
    show S43_0 (SF tabA 897) 897 (Int.ofNat x) (Int.ofNat 16) (gH m) = _
    unfold S43_0
    try dsimp only
    refine (br_ff (by kernel_rfl) _ _).trans ?_
    exact (cal_of e _).trans rfl
  exact (cal_of e2 _).trans rfl
end
end Go.Proofs.YtmoabbfdehaenaaGreatDoor.Lx
