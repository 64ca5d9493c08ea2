/- LexNames: the law's printed function. -/
import Derived.Test.YtlfhnopganplfaaGreatDoorLg
set_option linter.unusedVariables false
set_option linter.unusedSimpArgs false
set_option linter.unusedSectionVars false
set_option maxRecDepth 20000
namespace Go.Proofs.YtlfhnopganplfaaGreatDoor.Lx
open Go Go.Proofs.YtlfhnopganplfaaGreatDoor.Ev Go.Proofs.YtlfhnopganplfaaGreatDoor.Sx
noncomputable section
def hR (m : Int) (bs : List Nat) : HP := HP.newQ (gH m) (.cells false (bs.map bv))
abbrev sR (m : Int) (bs : List Nat) : AV := .slice (HP.nxQ (gH m)) 0 bs.length .unk
theorem ld5 (m : Int) (bs : List Nat) {i c : Nat} (hi : bs[i]? = some c) (F : Int → Res2) : (iasC 1 (sR m bs) (vI (Int.ofNat i)) fun t30 => ldC t30 (hR m bs) F) = F (Int.ofNat c) := by
  have hlt : i < bs.length := (List.getElem?_eq_some_iff.1 hi).1
  show (Bool.rec none (ldC (.ptr (HP.nxQ (gH m)) (Nat.add 0 (Nat.mul i 1))) (hR m bs) F) (Nat.ble (i + 1) bs.length) : Res2) = _
  rw [show Nat.ble (i + 1) bs.length = true from by rw [Nat.ble_eq]; exact hlt, show Nat.add 0 (Nat.mul i 1) = i from by show 0 + i * 1 = i; omega]
  show cellC (.ptr (HP.nxQ (gH m)) i) (hR m bs) (fun v => asI .u8 v F) = _
  rw [cellC_eq]
  have e : cellV (.ptr (HP.nxQ (gH m)) i) (hR m bs) = ob (HP.get (hR m bs) (HP.nxQ (gH m))) fun k => match k with | .cells _ vs => nth vs i | _ => none := rfl
  rw [e, show HP.get (hR m bs) (HP.nxQ (gH m)) = some (.cells false (bs.map bv)) from get_newQ _ _]
  show ob (nth (bs.map bv) i) (fun v => asI .u8 v F) = _
  rw [nth_eq, List.getElem?_map, hi]
  rfl
theorem slC_lh {s : LN} {l j : Nat} (h1 : l ≤ j) (h2 : j ≤ s.length) (F : AV → Res2) : slC (vS s) (some (vI (Int.ofNat l))) (some (vI (Int.ofNat j))) F = F (vS ((s.drop l).take (j - l))) := by
  show (Bool.rec none (Bool.rec none (obQ (takeN (Nat.sub j l) (dropN l s)) fun r => F (.str r)) (Nat.ble l j)) (Nat.ble j (lenL s)) : Res2) = _
  rw [lenL_eq, show Nat.ble j s.length = true from by rw [Nat.ble_eq]; exact h2, show Nat.ble l j = true from by rw [Nat.ble_eq]; exact h1, dropN_eq, takeN_is (Nat.sub j l) (s.drop l) (by rw [List.length_drop]; show j - l ≤ _; omega)]
  rfl
theorem one_of {s : LN} {k : Nat} (h : k < s.length) : (s.drop k).take (k + 1 - k) = [s.getD k 0] := by
  rw [List.drop_eq_getElem_cons h, show k + 1 - k = 1 by omega]
  rw [List.take_succ_cons, List.take_zero, List.getD_eq_getElem?_getD, List.getElem?_eq_getElem h]
  rfl
theorem rem43 (c : Nat) (F : Int → Res2) : obI .i64 (intBin .rem .i64 (Int.ofNat c) (Int.ofNat (lenL setL))) F = F (Int.tmod (Int.ofNat c) (Int.ofNat 43)) := by kernel_rfl
theorem in_all : ∀ k, k < 43 → setL.getD k 0 ∈ setL := by decide
theorem in_a : ∀ k, k < 33 → setL.getD k 0 ∈ setA := by decide
abbrev G5 : Type := LN → LN → AV → Int → Int → HP → Res2
theorem add5 {k i : Nat} {s : LN} (hk : k < 43) (hi : i ≤ 1000) (hs : s.length ≤ 1000) (D : CallD) (M : Nat) (g : G5) (t25 : AV) (t26 : Int) (h : HP) : S5_4 D M g setL s (Int.ofNat k) t25 t26 (Int.ofNat i) h = g setL (s ++ [setL.getD k 0]) t25 t26 (Int.ofNat (i + 1)) h := by
  unfold S5_4
  dsimp only
  rw [add_nat, wr_nat (by omega)]
  refine (slC_lh (by omega) (by show k + 1 ≤ 43; omega) _).trans ?_
  rw [one_of (by show k < 43; exact hk)]
  refine (asS_s _ _).trans ?_
  rw [strAdd (by simp; omega), obS_s]
  unfold S5_3
  dsimp only
  rw [add_nat, wr_nat (by omega)]
theorem names_loop (D : CallD) (M : Nat) (m : Int) {bs : List Nat} (hb : ∀ c ∈ bs, c ≤ 255) (hl : bs.length ≤ 60) : ∀ j mm s i, i + j = bs.length → j < mm → s.length = i → (∀ c ∈ s, c ∈ setL) → (i = 0 ∨ ∃ c l, s = c :: l ∧ c ∈ setA) →
    ∃ s', nrec (fun _ _ _ _ _ _ => none) (fun _ g => S5_2b D M g) mm setL s (sR m bs) (Int.ofNat bs.length) (Int.ofNat i) (hR m bs) = S5_0 D M s' (hR m bs) ∧ s'.length = bs.length ∧ (∀ c ∈ s', c ∈ setL) ∧ (bs.length = 0 ∨ ∃ c l, s' = c :: l ∧ c ∈ setA) := by
  intro j
  induction j with
  | zero =>
    intro mm s i h1 h2 h3 h4 h5
    obtain ⟨mm, rfl⟩ : ∃ q, mm = q + 1 := ⟨mm - 1, by omega⟩
    have hi : i = bs.length := by omega
    refine ⟨s, ?_, by omega, h4, by rw [← hi]; exact h5⟩
    show S5_2b D M (nrec (fun _ _ _ _ _ _ => none) (fun _ g => S5_2b D M g) mm) setL s (sR m bs) (Int.ofNat bs.length) (Int.ofNat i) (hR m bs) = _
    unfold S5_2b
    dsimp only
    rw [lt_nat, decide_eq_false (by omega), br_f]
  | succ j ih =>
    intro mm s i h1 h2 h3 h4 h5
    obtain ⟨mm, rfl⟩ : ∃ q, mm = q + 1 := ⟨mm - 1, by omega⟩
    have hlt : i < bs.length := by omega
    have hget := List.getElem?_eq_getElem hlt
    have hc : bs[i] ≤ 255 := hb _ (List.getElem_mem hlt)
    generalize bs[i] = c at hget hc
    have step : ∀ k, k < 43 → (i = 0 → k < 33) → (nrec (fun _ _ _ _ _ _ => none) (fun _ g => S5_2b D M g) (mm + 1) setL s (sR m bs) (Int.ofNat bs.length) (Int.ofNat i) (hR m bs) = S5_4 D M (nrec (fun _ _ _ _ _ _ => none) (fun _ g => S5_2b D M g) mm) setL s (Int.ofNat k) (sR m bs) (Int.ofNat bs.length) (Int.ofNat i) (hR m bs)) →
        ∃ s', nrec (fun _ _ _ _ _ _ => none) (fun _ g => S5_2b D M g) (mm + 1) setL s (sR m bs) (Int.ofNat bs.length) (Int.ofNat i) (hR m bs) = S5_0 D M s' (hR m bs) ∧ s'.length = bs.length ∧ (∀ c ∈ s', c ∈ setL) ∧ (bs.length = 0 ∨ ∃ c l, s' = c :: l ∧ c ∈ setA) := by
      intro k hk hk0 e
      rw [e, add5 hk (by omega) (by omega)]
      refine ih mm _ (i + 1) (by omega) (by omega) (by simp; omega) (fun x hx => ?_) (.inr ?_)
      · rcases List.mem_append.1 hx with hx | hx
        · exact h4 x hx
        · obtain rfl := List.mem_singleton.1 hx
          exact in_all k hk
      · rcases h5 with h5 | ⟨c, l, rfl, hc⟩
        · have : s = [] := List.eq_nil_of_length_eq_zero (by omega)
          subst this
          exact ⟨_, [], rfl, in_a k (hk0 h5)⟩
        · exact ⟨c, l ++ [setL.getD k 0], rfl, hc⟩
    by_cases g : i = 0
    · refine step (c % 33) (by omega) (fun _ => by omega) ?_
      show S5_2b D M (nrec (fun _ _ _ _ _ _ => none) (fun _ g => S5_2b D M g) mm) setL s (sR m bs) (Int.ofNat bs.length) (Int.ofNat i) (hR m bs) = _
      unfold S5_2b
      dsimp only
      rw [lt_nat, decide_eq_true hlt, br_t]
      refine (ld5 m bs hget _).trans ?_
      rw [wf_i64 (by omega)]
      refine (rem43 c _).trans ?_
      rw [eq_nat, decide_eq_true g, br_t, show Int.tmod (Int.ofNat c) (Int.ofNat 33) = Int.ofNat (c % 33) from rfl]
    · refine step (c % 43) (by omega) (fun e => absurd e g) ?_
      show S5_2b D M (nrec (fun _ _ _ _ _ _ => none) (fun _ g => S5_2b D M g) mm) setL s (sR m bs) (Int.ofNat bs.length) (Int.ofNat i) (hR m bs) = _
      unfold S5_2b
      dsimp only
      rw [lt_nat, decide_eq_true hlt, br_t]
      refine (ld5 m bs hget _).trans ?_
      rw [wf_i64 (by omega)]
      refine (rem43 c _).trans ?_
      rw [eq_nat, decide_eq_false g, br_f, show Int.tmod (Int.ofNat c) (Int.ofNat 43) = Int.ofNat (c % 43) from rfl]
theorem fin5 {n : Nat} {s : LN} (q : Nam s) (M : Nat) (h : HP) : ∃ h2, S5_0 (SF tabM (n + 1)) M s h = some (.ret (.bool true) h2, .no) := by
  unfold S5_0
  by_cases k : kd s = 0
  · have hl : 40 < s.length := by
      unfold kd at k
      split at k
      · omega
      · split at k
        · assumption
        · omega
    refine ex_tr (cal_of (lexM_er q k h) _) ?_
    refine ex_tr (ext0 _ _ _) ?_
    refine ex_tr (ext1 _ _ _ _) ?_
    refine ex_tr (asI_iv _ _) ?_
    refine ex_tr (ext2 _ _ _ _ _) ?_
    refine ex_tr (asI_iv _ _) ?_
    dsimp only
    rw [lenL_eq, lt_nat, decide_eq_true hl, br_t]
    refine ex_tr (obB_some (c := true) (by kernel_rfl) _) ?_
    exact ⟨_, rfl⟩
  · have hl : s.length ≤ 40 := by
      by_cases w : isW s = true
      · have := isW_len w; omega
      · unfold kd at k
        rw [if_neg w] at k
        by_cases g : 40 < s.length
        · rw [if_pos g] at k; exact absurd rfl k
        · omega
    refine ex_tr (cal_of (lexM_ok q k h) _) ?_
    refine ex_tr (ext0 _ _ _) ?_
    refine ex_tr (ext1 _ _ _ _) ?_
    refine ex_tr (asI_iv _ _) ?_
    refine ex_tr (ext2 _ _ _ _ _) ?_
    refine ex_tr (asI_iv _ _) ?_
    dsimp only
    rw [lenL_eq, lt_nat, decide_eq_false (by omega), br_f]
    refine ex_tr (cal_of (w8_ok s _) _) ?_
    refine ex_tr (asB_b _ _) ?_
    by_cases w : isW s = true
    · have e : kd s = 5 := by unfold kd; rw [if_pos w]
      rw [w, br_t, e]
      unfold S5_1
      refine ex_tr (obB_some (c := true) (by kernel_rfl) _) ?_
      refine ex_tr (obB_some (c := true) (tok_same 5 s) _) ?_
      exact ⟨_, rfl⟩
    · have e : kd s = 1 := by unfold kd; rw [if_neg w, if_neg (by omega)]
      have w : isW s = false := by cases e : isW s with | true => exact absurd e w | false => rfl
      rw [w, br_f, e]
      unfold S5_1
      refine ex_tr (obB_some (c := true) (by kernel_rfl) _) ?_
      refine ex_tr (obB_some (c := true) (tok_same 1 s) _) ?_
      exact ⟨_, rfl⟩
theorem find5 : tabM.run 5 = S5 := by kernel_rfl
theorem awk5 (h : HP) (k : AV → HP → Res2) : cal (SF tabM 899) 6 [] h k = k (.bool true) h := by kernel_rfl
theorem run5 (m : Int) {bs : List Nat} (hb : ∀ c ∈ bs, c ≤ 255) : ∃ h2, SF tabM 900 5 [sR m bs] (hR m bs) .no = some (.ret (.bool true) h2, .no) := by
  rw [SF_succ, find5]
  show ∃ h2, S5_5 (SF tabM 899) 899 (sR m bs) (hR m bs) = _
  unfold S5_5
  refine ex_tr (awk5 _ _) ?_
  refine ex_tr (asB_b _ _) ?_
  refine ex_tr (obB_some (c := eqQ (Int.ofNat bs.length) (Int.ofNat 0)) rfl _) ?_
  rw [eq_nat]
  by_cases h0 : bs.length = 0
  · rw [decide_eq_true h0]
    refine ex_tr (obB_some (c := true) rfl _) ?_
    refine ex_tr (br_t _ _) ?_
    refine ex_tr (awk5 _ _) ?_
    exact ⟨_, rfl⟩
  rw [decide_eq_false h0]
  refine ex_tr (obB_some (c := ltQ (Int.ofNat 60) (Int.ofNat bs.length)) rfl _) ?_
  rw [lt_nat]
  by_cases h6 : 60 < bs.length
  · rw [decide_eq_true h6]
    refine ex_tr (br_t _ _) ?_
    refine ex_tr (awk5 _ _) ?_
    exact ⟨_, rfl⟩
  rw [decide_eq_false h6]
  refine ex_tr (br_f _ _) ?_
  obtain ⟨s', e, e1, e2, e3⟩ := names_loop (SF tabM 899) 899 m hb (by omega) bs.length 899 [] 0 (by omega) (by omega) rfl (fun c hc => by simp at hc) (.inl rfl)
  refine ex_tr (Y := nrec (fun _ _ _ _ _ _ => none) (fun _ g => S5_2b (SF tabM 899) 899 g) 899 setL [] (sR m bs) (Int.ofNat bs.length) (Int.ofNat 0) (hR m bs)) rfl ?_
  refine ex_tr e ?_
  exact fin5 (n := 898) ⟨e3.resolve_left h0, e2, by omega⟩ 899 _
theorem run5n (m : Int) : ∃ h2, SF tabM 900 5 [.nils] (gH m) .no = some (.ret (.bool true) h2, .no) := by
  rw [SF_succ, find5]
  show ∃ h2, S5_5 (SF tabM 899) 899 .nils (gH m) = _
  unfold S5_5
  refine ex_tr (awk5 _ _) ?_
  refine ex_tr (asB_b _ _) ?_
  refine ex_tr (obB_some (c := true) (by kernel_rfl) _) ?_
  refine ex_tr (obB_some (c := true) rfl _) ?_
  refine ex_tr (br_t _ _) ?_
  refine ex_tr (awk5 _ _) ?_
  exact ⟨_, rfl⟩
end
end Go.Proofs.YtlfhnopganplfaaGreatDoor.Lx
