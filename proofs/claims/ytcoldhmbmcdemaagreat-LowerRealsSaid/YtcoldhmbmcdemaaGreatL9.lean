/- The printed functions of the reference between words and reals always answer (over a framework with T64=1). -/
import Derived.Test.YtcoldhmbmcdemaaGreatL8
set_option linter.unusedVariables false
set_option linter.unusedSimpArgs false
set_option linter.unusedSectionVars false
namespace Go.Proofs.YtcoldhmbmcdemaaGreat.Lg
open Go Go.Proofs.YtcoldhmbmcdemaaGreat.Ev Go.Proofs.YtcoldhmbmcdemaaGreat.Sx
noncomputable section
theorem find15 : tabS.run 15 = S15 := by kernel_rfl
theorem find17 : tabS.run 17 = S17 := by kernel_rfl
theorem find28 : tabS.run 28 = S28 := by kernel_rfl
theorem find27 : tabS.run 27 = S27 := by kernel_rfl
theorem enter15 (D : CallD) (m : Nat) (a : Int) (h : HP) : S15 D m [vW a] h .no = S15_0 D m a h := rfl
theorem enter17 (D : CallD) (m : Nat) (a : Int) (h : HP) : S17 D m [.int .u64 a] h .no = S17_2 D m a h := rfl
theorem enter28 (D : CallD) (m : Nat) (a : Int) (h : HP) : S28 D m [vI a] h .no = S28_1 D m a h := rfl
theorem enter27 (D : CallD) (m : Nat) (a : Int) (h : HP) : S27 D m [vW a] h .no = S27_0 D m a h := rfl
theorem asI_wv (x : Int) (F : Int → Res2) : asI .u32 (vW x) F = F x := rfl
def sgI (a : Nat) : Int := if 2147483648 ≤ a then (a : Int) - 4294967296 else a
theorem cvW {a : Nat} (h : a ≤ 4294967295) (F : Int → Res2) : obI .i64 (convV (.ii .i64) (vW (Int.ofNat a))) F = F (Int.ofNat a) := by
  have e : obI .i64 (convV (.ii .i64) (vW (Int.ofNat a))) F = F (wrapF .i64 (Int.ofNat a)) := by kernel_rfl
  rw [e, wf_nat (by omega)]
theorem le_nat (a b : Nat) : leQ (Int.ofNat a) (Int.ofNat b) = decide (a ≤ b) := by
  rw [le_dec]; exact decide_eq_decide.2 Int.ofNat_le
theorem sf_Sgn {a : Nat} (ha : a ≤ 4294967295) (n : Nat) (h : HP) : SF tabS (n + 1) 27 [vW (Int.ofNat a)] h .no = some (.ret (vI (sgI a)) h, .no) := by
  rw [SF_succ, find27, enter27]
  unfold S27_0
  rw [cvW ha]
  simp only [le_nat]
  rw [br_if]
  unfold sgI
  split
  · rw [wr_id (z := Int.ofNat a - Int.ofNat 4294967296) (by show _ ≤ (a : Int) - 4294967296; omega) (by show (a : Int) - 4294967296 ≤ _; omega)]
    rfl
  · rfl
theorem sf_OfInt {h : HP} (w : Wf h) {a : Nat} (ha : a ≤ 4294967295) (n : Nat) (hn : 20000 < n) : TotU (SF tabS (n + 6) 15 [vW (Int.ofNat a)] h .no) h := by
  rw [SF_succ, find15, enter15]
  unfold S15_0
  rw [cal_of (sf_Sgn ha (n + 4) h), asI_iv]
  simp only [lt_dec]
  by_cases g : 2147483648 ≤ a
  · have e : sgI a = (a : Int) - 4294967296 := by unfold sgI; rw [if_pos g]
    rw [e, decide_eq_true (show (a : Int) - 4294967296 < Int.ofNat 0 by show (a : Int) - 4294967296 < 0; omega), br_t]
    have e0 : IntKind.wrap .i64 (0 - ((a : Int) - 4294967296)) = Int.ofNat (4294967296 - a) := by
      rw [show (0 : Int) - ((a : Int) - 4294967296) = Int.ofNat (4294967296 - a) by show _ = ((4294967296 - a : Nat) : Int); omega, ← @wrapF_eq rh]; exact wf_nat (by omega)
    simp only [e0]
    obtain ⟨v1, h1, e1, w1, le1, x1, _⟩ := sf_of w (N := 4294967296 - a) (by omega) (n + 4) (by omega)
    rw [cal_of e1]
    obtain ⟨v2, h2, e2, w2, le2, x2, _⟩ := sf_of w1 (N := 1) (by omega) (n + 4) (by omega)
    rw [cal_of e2]
    obtain ⟨k, hk, h3, e3, w3, le3⟩ := sf_nearT w2 (x1.mono le2) x2 (by decide) (e := Int.ofNat 0) (Nat.le_trans (nd_small (k := 3) (by omega)) (by omega)) (by decide) (by decide) n hn
    rw [cal_of e3, asI_uv, cal_of (sf_signed' (s := 1) hk (n + 4) h3), asI_uv]
    exact ⟨_, sg_lt hk, h3, rfl, w3, le1.trans (le2.trans le3)⟩
  · have e : sgI a = Int.ofNat a := by unfold sgI; rw [if_neg g]; rfl
    rw [e, decide_eq_false (show ¬ Int.ofNat a < Int.ofNat 0 by show ¬ (a : Int) < 0; omega), br_f]
    obtain ⟨v1, h1, e1, w1, le1, x1, _⟩ := sf_of w (N := a) (by omega) (n + 4) (by omega)
    rw [cal_of e1]
    obtain ⟨v2, h2, e2, w2, le2, x2, _⟩ := sf_of w1 (N := 1) (by omega) (n + 4) (by omega)
    rw [cal_of e2]
    obtain ⟨k, hk, h3, e3, w3, le3⟩ := sf_nearT w2 (x1.mono le2) x2 (by decide) (e := Int.ofNat 0) (Nat.le_trans (nd_small (k := 3) (by omega)) (by omega)) (by decide) (by decide) n hn
    rw [cal_of e3, asI_uv]
    exact ⟨_, by omega, h3, rfl, w3, le1.trans (le2.trans le3)⟩
def TotW (r : Res2) (h : HP) : Prop := ∃ k, k ≤ 4294967295 ∧ r = some (.ret (vW (Int.ofNat k)) h, .no)
theorem word_of (x : Int) : ∃ k : Nat, k ≤ 4294967295 ∧ wrapF .u32 x = Int.ofNat k := by
  have h1 : 0 ≤ wrapF .u32 x ∧ wrapF .u32 x ≤ 4294967295 := by
    rw [@wrapF_eq rh]; unfold IntKind.wrap; simp [IntKind.signed, IntKind.bits]; omega
  refine ⟨(wrapF .u32 x).toNat, by omega, ?_⟩
  show wrapF .u32 x = (((wrapF .u32 x).toNat : Nat) : Int)
  omega
theorem totW_wrap (x : Int) (h : HP) : TotW (some (.ret (vW (wrapF .u32 x)) h, .no)) h := by
  obtain ⟨k, hk, e⟩ := word_of x
  rw [e]; exact ⟨k, hk, rfl⟩
theorem sf_Ofw (x : Int) (n : Nat) (h : HP) : TotW (SF tabS (n + 1) 28 [vI x] h .no) h := by
  rw [SF_succ, find28, enter28]
  unfold S28_1
  simp only []
  rw [br_b]
  split <;> exact totW_wrap _ _
theorem to_end {s n : Nat} (m K : Nat) (h : HP) : TotW (S17_0 (SF tabS (m + 1)) K (Int.ofNat s) (Int.ofNat n) h) h := by
  have con : ∀ k : Nat, k ≤ 4294967295 → TotW (some (.ret (vW (Int.ofNat k)) h, .no)) h := fun k hk => ⟨k, hk, rfl⟩
  unfold S17_0
  rw [bu_eql, asB_v]
  simp only [le_nat, lt_nat]
  rw [and_B, br_b]
  split
  · exact con _ (by decide)
  · rw [bu_eql, asB_v, br_b]
    split
    · obtain ⟨k, hk, e⟩ := sf_Ofw (IntKind.wrap .i64 (0 - Int.ofNat n)) m h
      rw [cal_of e, asI_wv]
      exact con k hk
    · rw [br_b]
      split
      · exact con _ (by decide)
      · exact totW_wrap _ _
theorem to_loop {s : Nat} (n M : Nat) (h : HP) : ∀ m e x, 1075 - e < m → e ≤ 1075 → x ≤ 9223372036854775807 → TotW (nrec (fun _ _ _ _ => none) (fun _ g => S17_1b (SF tabS (n + 1)) M g) m (Int.ofNat s) (Int.ofNat x) (Int.ofNat e) h) h := by
  intro m
  induction m with
  | zero => intro e x h1; omega
  | succ m ih =>
    intro e x h1 h2 h3
    show TotW (S17_1b (SF tabS (n + 1)) M (nrec (fun _ _ _ _ => none) (fun _ g => S17_1b (SF tabS (n + 1)) M g) m) (Int.ofNat s) (Int.ofNat x) (Int.ofNat e) h) h
    generalize nrec (fun _ _ _ _ => none) (fun _ g => S17_1b (SF tabS (n + 1)) M g) m = G at ih ⊢
    unfold S17_1b
    rw [bu_lss, asB_v, br_if]
    split
    · rename_i g
      simp only [tdiv_nat]
      have h4 : e + 1 ≤ 18446744073709551615 := by omega
      rw [wf_nat (by omega), bu_add h4, asI_uv]
      exact ih (e + 1) (x / 2) (by omega) (by omega) (by omega)
    · exact to_end n M h
theorem sf_ToInt {a : Nat} (ha : a < 2 ^ 64) (n : Nat) (hn : 2000 < n) (h : HP) : TotW (SF tabS (n + 3) 17 [uv a] h .no) h := by
  have con : ∀ k : Nat, k ≤ 4294967295 → TotW (some (.ret (vW (Int.ofNat k)) h, .no)) h := fun k hk => ⟨k, hk, rfl⟩
  have h1 : rN a < 4503599627370496 := Nat.mod_lt _ (by omega)
  rw [SF_succ, find17, enter17]
  unfold S17_2
  rw [parts_k ha, cal_of (sf_isN ha n h), asB_v, br_b]
  split
  · exact con _ (by decide)
  · rw [bu_lss, asB_v, br_if]
    split
    · exact con _ (by decide)
    · rw [bu_gtr, asB_v, br_if]
      split
      · rw [bu_eql, asB_v, br_if]
        split <;> exact con _ (by decide)
      · rename_i g2
        have h4 : rN a + 4503599627370496 ≤ 18446744073709551615 := by omega
        rw [bu_add h4, asI_uv, cv64 (by omega)]
        unfold S17_1
        exact to_loop (n + 1) (n + 2) h (n + 2) (eN a) _ (by omega) (by omega) (by omega)
end
end Go.Proofs.YtcoldhmbmcdemaaGreat.Lg
