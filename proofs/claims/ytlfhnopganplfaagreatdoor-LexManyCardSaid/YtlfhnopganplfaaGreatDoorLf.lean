/- LexNumbers: the law answers true. -/
import Derived.Test.YtlfhnopganplfaaGreatDoorLe
set_option linter.unusedVariables false
set_option linter.unusedSimpArgs false
set_option linter.unusedSectionVars false
set_option maxRecDepth 20000
namespace Go.Proofs.YtlfhnopganplfaaGreatDoor.Lx
open Go Go.Proofs.YtlfhnopganplfaaGreatDoor.Ev Go.Proofs.YtlfhnopganplfaaGreatDoor.Sx
noncomputable section
theorem obB_some {X : Option AV} {c : Bool} (e : X = some (vB c)) (F : Bool → Res2) : obB X F = F c := by subst e; rfl
theorem ext0 (x : AV) (l : List AV) (F : AV → Res2) : extC (.tup (x :: l)) 0 F = F x := rfl
theorem ext1 (x y : AV) (l : List AV) (F : AV → Res2) : extC (.tup (x :: y :: l)) 1 F = F y := rfl
theorem ext2 (x y z : AV) (l : List AV) (F : AV → Res2) : extC (.tup (x :: y :: z :: l)) 2 F = F z := rfl
def remM (M : Nat) (n : Int) : Nat := (wrapF .u64 n).toNat % M
theorem keyM {M : Nat} (h0 : 0 < M) (hM : M ≤ 9223372036854775807) (n : Int) : wrapF .i64 (Int.tmod (wrapF .u64 n) (Int.ofNat M)) = Int.ofNat (remM M n) := by
  have h1 : 0 ≤ wrapF .u64 n := by
    rw [@wrapF_eq rh]; unfold IntKind.wrap; simp [IntKind.signed, IntKind.bits]; omega
  obtain ⟨k, hk⟩ := Int.eq_ofNat_of_zero_le h1
  unfold remM
  rw [hk]
  have e : Int.tmod (k : Int) (Int.ofNat M) = Int.ofNat (k % M) := rfl
  rw [e]
  have hlt : k % M < M := Nat.mod_lt _ h0
  rw [wf_i64 (by omega)]
  rfl
theorem tok_same {h : HP} (K : Nat) (s : LN) : brV true (iasCV 3 (.slice (HP.nxQ h) 0 2 (.spare 3)) (vI (Int.ofNat 0)) fun t55 => cellsCV 3 t55 (HP.newQ h (.cells true (okV K s))) fun t56 => obBV (evP (.eqs 3 [(0, .int), (1, .str), (2, .int)] false (.c t56) (.c (tokV K s))) .leaf) fun t59 => some (vB t59)) (some (vB false)) = some (vB true) := by
  rw [brV_t]
  refine Eq.trans (b := cellsCV 3 (.ptr (HP.nxQ h) 0) (HP.newQ h (.cells true (okV K s))) fun t56 => obBV (evP (.eqs 3 [(0, .int), (1, .str), (2, .int)] false (.c t56) (.c (tokV K s))) .leaf) fun t59 => some (vB t59)) rfl ?_
  rw [cells_new, eqs_tok]
  rfl
theorem fin4 {n k : Nat} {s : LN} (hs : s ≠ []) (f : Sofar k 0 s) (hl : s.length ≤ 11) (hk : k < 17179869184) (M : Nat) (h : HP) : ∃ h2, S4_0 (SF tabN (n + 1)) M (Int.ofNat k) s h = some (.ret (.bool true) h2, .no) := by
  obtain ⟨q1, q2, q3⟩ := f
  have hv : vlA s 0 = k := by rw [← q2, Nat.zero_mul, Nat.add_zero]
  unfold S4_0
  by_cases g : k ≤ 4294967295
  · have h10 : s.length ≤ 10 := by
      rcases q3 with q3 | q3 | q3
      · omega
      · omega
      · rcases Nat.lt_or_ge s.length 11 with q | q
        · omega
        · have e : s.length = 11 := by omega
          rw [e] at q3
          have : (10 : Nat) ^ (11 - 1) = 10000000000 := by decide
          omega
    have e := lexN_ok (n := n) ⟨q1, hs, h10, by rw [hv]; exact g⟩ h
    unfold okA' at e
    refine ex_tr (cal_of e _) ?_
    refine ex_tr (ext0 _ _ _) ?_
    refine ex_tr (ext1 _ _ _ _) ?_
    refine ex_tr (asI_iv _ _) ?_
    refine ex_tr (ext2 _ _ _ _ _) ?_
    refine ex_tr (asI_iv _ _) ?_
    dsimp only
    rw [le_nat, decide_eq_false (by omega), br_f]
    refine ex_tr (obB_some (c := true) (by kernel_rfl) _) ?_
    refine ex_tr (obB_some (c := true) (tok_same 2 s) _) ?_
    exact ⟨_, rfl⟩
  · have e := lexN_er (n := n) ⟨q1, hs, by omega, by rw [hv]; omega⟩ h
    refine ex_tr (cal_of e _) ?_
    refine ex_tr (ext0 _ _ _) ?_
    refine ex_tr (ext1 _ _ _ _) ?_
    refine ex_tr (asI_iv _ _) ?_
    refine ex_tr (ext2 _ _ _ _ _) ?_
    refine ex_tr (asI_iv _ _) ?_
    dsimp only
    rw [le_nat, decide_eq_true (by omega), br_t]
    refine ex_tr (obB_some (c := true) (by kernel_rfl) _) ?_
    exact ⟨_, rfl⟩
theorem find4 : tabN.run 4 = S4 := by kernel_rfl
theorem awk (h : HP) (k : AV → HP → Res2) : cal (SF tabN 899) 6 [] h k = k (.bool true) h := by kernel_rfl
theorem run4 (m n : Int) : Go.Proofs.YtlfhnopganplfaaGreatDoor.Ev.isTrue (SF tabN 900 4 [.int .i64 n] (gH m) .no) = true := by
  have : ∃ h2, SF tabN 900 4 [.int .i64 n] (gH m) .no = some (.ret (.bool true) h2, .no) := by
    rw [SF_succ, find4]
    show ∃ h2, S4_2 (SF tabN 899) 899 n (gH m) = _
    unfold S4_2
    refine ex_tr (awk _ _) ?_
    refine ex_tr (asB_b _ _) ?_
    refine ex_tr (br_f _ _) ?_
    dsimp only
    rw [keyM (by decide) (by decide)]
    have hk : remM 17179869184 n < 17179869184 := Nat.mod_lt _ (by decide)
    generalize remM 17179869184 n = k at hk ⊢
    obtain ⟨s', h', e, e1, e2, e3⟩ := text_loop (SF tabN 899) 899 k hk 11 899 [] k (gH m) (.inr (by decide)) (Nat.lt_trans hk (by decide)) (by decide) ⟨fun c hc => by simp at hc, by show 0 + k * 10 ^ 0 = k; omega, .inl (by simp)⟩ (by simp)
    refine ex_tr e ?_
    exact fin4 (n := 898) e1 e2 e3 hk 899 h'
  obtain ⟨h2, e⟩ := this
  unfold Go.Proofs.YtlfhnopganplfaaGreatDoor.Ev.isTrue
  rw [e]
end
end Go.Proofs.YtlfhnopganplfaaGreatDoor.Lx
