/- The law SemWords of chapter 15 returns true whatever its arguments: the kernel runs the eleven programs at two words of which nothing is known. No condition. -/
import Derived.Test.YtblciblkocameaaGreatRows
import Derived.Test.YtblciblkocameaaGreatWr0
import Derived.Test.YtblciblkocameaaGreatWr1
import Derived.Test.YtblciblkocameaaGreatWr2
import Derived.WalkKit
import Derived.ProofKit
import Derived.OpenShut
set_option linter.unusedSectionVars false
namespace Go.Proofs.YtblciblkocameaaGreat.Sx
open Go Go.Proofs.YtblciblkocameaaGreat.Ev
noncomputable section
section
variable [Rho]
theorem wr_bd (x : Int) : ∃ n, n ≤ 4294967295 ∧ wrapF .u32 x = Int.ofNat n := by
  rw [wu32]
  refine ⟨(x % 4294967296).toNat, by omega, ?_⟩
  show _ = (((x % 4294967296).toNat : Nat) : Int); omega
/-- What an operation answers is a word. -/
theorem do_bd (k a b : Nat) (hk : k ∈ [1, 2, 3, 6, 8, 9, 10, 11, 14, 16]) (ha : a < 4294967296) (hb : b < 4294967296) : ∃ n, n ≤ 4294967295 ∧ doW k a b = Int.ofNat n := by
  simp only [List.mem_cons, List.not_mem_nil, or_false] at hk
  rcases hk with rfl | rfl | rfl | rfl | rfl | rfl | rfl | rfl | rfl | rfl
  · rw [← c1 ha hb, wrQ_eq]; exact wr_bd _
  · rw [← c2 ha hb, wrQ_eq]; exact wr_bd _
  · rw [← c3 ha, ← wrapF_eq]; exact wr_bd _
  · rw [← cb 1 6 (by omega) ha hb]; exact wr_bd _
  · rw [← c8 ha]; exact wr_bd _
  · rw [← cb 2 9 (by omega) ha hb]; exact wr_bd _
  · rw [← cb 3 10 (by omega) ha hb]; exact wr_bd _
  · rw [← c11 ha hb]; exact wr_bd _
  · by_cases h0 : b = 0
    · subst h0; exact ⟨4294967295, by omega, (c0 a).1⟩
    · rw [← c14 ha hb h0]; exact wr_bd _
  · by_cases h0 : b = 0
    · subst h0; exact ⟨a, by omega, (c0 a).2⟩
    · rw [← c16 ha hb h0]; exact wr_bd _
theorem s157_eq (a : Nat) (ha : a < 4294967296) : s157 (Int.ofNat a) = sgn (Int.ofNat a) := by
  have h := sgn_bd ha
  unfold s157
  rw [← sgn_i32 a ha, wi64 _ (by omega) (by omega)]
theorem less_eq (a b : Nat) (ha : a < 4294967296) (hb : b < 4294967296) : (Bool.rec (Int.ofNat 0) (Int.ofNat 1) (ltQ (s157 (Int.ofNat a)) (s157 (Int.ofNat b))) : Int) = doW 4 a b := by
  rw [doW_4, s157_eq a ha, s157_eq b hb]
  cases ltQ (sgn (Int.ofNat a)) (sgn (Int.ofNat b)) <;> rfl
theorem enterV (code : Nat) (B : Bool) (x a b : Int) : SF (tabV code B) 1000 4 [.int .u8 x, .int .u32 a, .int .u32 b] ⟨.h, .leaf⟩ .no = S4_0 (SF (tabV code B) 999) 999 x a b ⟨.h, .leaf⟩ := by kernel_rfl
theorem enterL (t : Bool) (B : Bool) (x a b : Int) : SF (tabL t B) 1000 4 [.int .u8 x, .int .u32 a, .int .u32 b] ⟨.h, .leaf⟩ .no = S4_0 (SF (tabL t B) 999) 999 x a b ⟨.h, .leaf⟩ := by kernel_rfl
end
abbrev rhoW (y z n : Nat) (hy : y < 4294967296) (hz : z < 4294967296) (hn : n ≤ 4294967295) : Rho :=
  ⟨fun i => match i with | 0 => y | 1 => z | _ => n, fun i => by split <;> omega⟩
def Goes (x y z : Nat) : Prop := ∃ (I : Rho) (t : ST), @Rho.r I 0 = y ∧ @Rho.r I 1 = z ∧ @ST.Ok I Tryz.prog t ∧ isTrue (SF t 1000 4 [.int .u8 (.ofNat x), .int .u32 (.negSucc 0), .int .u32 (.negSucc 1)] ⟨.h, .leaf⟩ .no) = true
theorem goV (k c x y z : Nat) (hy : y < 4294967296) (hz : z < 4294967296) (hc : x % 11 = c) (hk : k ∈ [1, 2, 3, 6, 8, 9, 10, 11, 14, 16]) (hrun : ∀ B, oV (tabV k B) c = true) : Goes x y z := by
  have r0 : Rho := rhoW y z 0 hy hz (by omega)
  obtain ⟨n, hn, e⟩ := do_bd k y z hk hy hz
  refine ⟨rhoW y z n hy hz hn, tabV k (doB k y z), rfl, rfl, ?_, ?_⟩
  · letI := rhoW y z n hy hz hn
    exact okV rfl hk e
  · rw [enterV, ← modW, hc]
    exact hrun _
theorem goL (x y z : Nat) (hy : y < 4294967296) (hz : z < 4294967296) (hc : x % 11 = 10) : Goes x y z := by
  refine ⟨rhoW y z 0 hy hz (by omega), tabL (ltQ (s157 (Int.ofNat y)) (s157 (Int.ofNat z))) (doB 4 y z), rfl, rfl, ?_, ?_⟩
  · letI := rhoW y z 0 hy hz (by omega)
    exact okL rfl rfl (less_eq y z hy hz)
  · letI := rhoW y z 0 hy hz (by omega)
    rw [enterL, ← modW, hc]
    cases ltQ (s157 (Int.ofNat y)) (s157 (Int.ofNat z))
    · exact gS10false _
    · exact gS10true _
theorem goes (x y z : Nat) (hy : y < 4294967296) (hz : z < 4294967296) : Goes x y z := by
  have h : x % 11 = 0 ∨ x % 11 = 1 ∨ x % 11 = 2 ∨ x % 11 = 3 ∨ x % 11 = 4 ∨ x % 11 = 5 ∨ x % 11 = 6 ∨ x % 11 = 7 ∨ x % 11 = 8 ∨ x % 11 = 9 ∨ x % 11 = 10 := by omega
  rcases h with h | h | h | h | h | h | h | h | h | h | h
  · exact goV 1 0 x y z hy hz h (by decide) gS0
  · exact goV 2 1 x y z hy hz h (by decide) gS1
  · exact goV 11 2 x y z hy hz h (by decide) gS2
  · exact goV 14 3 x y z hy hz h (by decide) gS3
  · exact goV 16 4 x y z hy hz h (by decide) gS4
  · exact goV 3 5 x y z hy hz h (by decide) gS5
  · exact goV 8 6 x y z hy hz h (by decide) gS6
  · exact goV 10 7 x y z hy hz h (by decide) gS7
  · exact goV 9 8 x y z hy hz h (by decide) gS8
  · exact goV 6 9 x y z hy hz h (by decide) gS9
  · exact goL x y z hy hz h
theorem nat_ofW {a : Int} (h0 : (0 : Int) ≤ a) : ∃ n : Nat, a = .ofNat n := ⟨a.toNat, by show a = ((a.toNat : Nat) : Int); omega⟩
theorem tok_is [Rho] {φ : Phi} {n i : Nat} (h : Rho.r i = n) : RV φ (.int .u32 (Int.ofNat n)) (.int .u32 (.negSucc i)) := h ▸ RV.tok i
end
end Go.Proofs.YtblciblkocameaaGreat.Sx
namespace Go.Proofs.YtblciblkocameaaGreat.semWords
open Go.ChangeShapes Go.WideShapes Go.ChangeAt Go.RowKit
set_option linter.unusedVariables false      -- a walk need not use every 'w<i>' (that an integer argument fits its kind)

theorem own : ownKnob Tryz.prog.godebug = none := by kernel_rfl

/-! ### STEP 1: THE WALK: the Go text returns true. 'Ev.GrownO w w'': the world has at most new blocks (Derived/RowKit3.lean). Part the cases AHEAD of 'go_enter' where a test parts the walk; take each callee by a contract of your own. -/
theorem walk (a0 : Int) (a1 : Int) (a2 : Int) (w0 : (Lit.int .u8 a0).wf = true) (w1 : (Lit.int .u32 a1).wf = true) (w2 : (Lit.int .u32 a2).wf = true) (w : World) :
    Calls Tryz.prog 4 #[.int .u8 a0, .int .u32 a1, .int .u32 a2] w fun e w' => e = .returned (.bool true) ∧ Ev.GrownO w w' := by
  have h0 : (0 : Int) ≤ a0 := by
    simp [Lit.wf, IntKind.min, IntKind.max, IntKind.signed, IntKind.bits] at w0
    omega
  have h1 : (0 : Int) ≤ a1 := by
    simp [Lit.wf, IntKind.min, IntKind.max, IntKind.signed, IntKind.bits] at w1
    omega
  have h2 : (0 : Int) ≤ a2 := by
    simp [Lit.wf, IntKind.min, IntKind.max, IntKind.signed, IntKind.bits] at w2
    omega
  have b1 : a1 < 4294967296 := by
    simp [Lit.wf, IntKind.min, IntKind.max, IntKind.signed, IntKind.bits] at w1
    omega
  have b2 : a2 < 4294967296 := by
    simp [Lit.wf, IntKind.min, IntKind.max, IntKind.signed, IntKind.bits] at w2
    omega
  obtain ⟨x, rfl⟩ := Sx.nat_ofW h0
  obtain ⟨y, rfl⟩ := Sx.nat_ofW h1
  obtain ⟨z, rfl⟩ := Sx.nat_ofW h2
  have hy : y < 4294967296 := by have : (y : Int) < 4294967296 := b1; omega
  have hz : z < 4294967296 := by have : (z : Int) < 4294967296 := b2; omega
  obtain ⟨I, t, r0, r1, hok, hrun⟩ := Sx.goes x y z hy hz
  letI := I
  exact Ev.walk_S (vs := [.int .u8 (.ofNat x), .int .u32 (.ofNat y), .int .u32 (.ofNat z)]) (by kernel_rfl) hok hrun (.cons _ _ _ _ (.int _ _ (Ev.InR.no (by decide))) (.cons _ _ _ _ (Sx.tok_is r0) (.cons _ _ _ _ (Sx.tok_is r1) .nil))) w

/-! ### THE ROW's STEP: WRITTEN OUT: LEAVE IT -/
set_option maxRecDepth 100000 in
theorem lifted (os : Os) (started : os.Started) (H : Type) (enc : TypeId × Value → H) :
    ReturnsInHanded {} Tryz.checked os 4 .any (Rows.semWordsSpec.pre6 enc Tryz.prog Tryz.f4 Rows.semWordsRow.domain false) (Rows.semWordsSpec.post enc Tryz.prog Tryz.f4 false true false false) := by
  refine returnsInHanded_of_change (C := Tryz.checked) own started (by kernel_rfl) Tryz.func4
    (ChangeSpec.witness6 (enc := enc) (C := Tryz.checked) false ⟨#[], #[.int .u8 0, .int .u32 0, .int .u32 0], []⟩ 8 (by kernel_rfl) (by kernel_rfl) (by kernel_rfl) (by kernel_rfl)) ?_
  intro W base args ds gs before hval0 hW hcnd _
  have hval : ∀ (j : Nat) t v, Tryz.f4.params[j]? = some t → args[j]? = some v → Value.okWide Tryz.prog W .any base t v := hval0
  have hW' := hW
  obtain ⟨p, q, hA0, hV, rfl, hfz, hnd⟩ := hW
  have hA : DataW.TrodAll enc Tryz.prog W 0 (fun _ => true) true Tryz.f4.params.toList args.toList ds p := hA0
  rw [Tryz.params4] at hA hval
  obtain ⟨v0, vs0, d0, ds0, p0, q0, hargs, rfl, rfl, h0, r0⟩ := trodAll_cons hA
  obtain ⟨v1, vs1, d1, ds1, p1, q1, rfl, rfl, rfl, h1, r1⟩ := trodAll_cons r0
  obtain ⟨v2, vs2, d2, ds2, p2, q2, rfl, rfl, rfl, h2, r2⟩ := trodAll_cons r1
  obtain ⟨rfl, rfl, rfl⟩ := trodAll_nil r2
  obtain rfl : args = #[v0, v1, v2] := by cases args; simp_all
  obtain ⟨rfl, rfl⟩ := trodVars_none hV
  obtain ⟨a0, rfl, rfl, rfl, w0⟩ := open_int Tryz.underlying5 (hval 0 5 v0 rfl rfl) h0
  obtain ⟨a1, rfl, rfl, rfl, w1⟩ := open_int Tryz.underlying32 (hval 1 32 v1 rfl rfl) h1
  obtain ⟨a2, rfl, rfl, rfl, w2⟩ := open_int Tryz.underlying32 (hval 2 32 v2 rfl rfl) h2
  clear hA0 hval0
  simp only [List.append_nil] at hW'
  refine (walk a0 a1 a2 w0 w1 w2 W).mono fun e W' ⟨he, hg⟩ => ?_
  subst he
  letI : Ev.Rho := ⟨fun _ => 0, fun _ => Nat.zero_le _⟩
  exact ⟨_, rfl, Ev.post_of_old (pa := []) (pv := []) hW' (fun _ _ _ => (trodAll_cons_mk (shut_bool Tryz.underlying4 _) trodAll_mk0)) (fun sp _ => (trodAll_cons_mk (shut_int Tryz.underlying5 w0) (trodAll_cons_mk (shut_int Tryz.underlying32 w1) (trodAll_cons_mk (shut_int Tryz.underlying32 w2) trodAll_mk0)))) (fun _ _ => rfl) rfl
    hg (ok_one (by kernel_rfl) rfl (okWide_bool_mk Tryz.underlying4 _))⟩

theorem over : Rows.semWordsRow.holds Tryz.pinned (OpenSpec.ofChange Rows.semWordsSpec) :=
  OpenClaim.holds_of_wide 4 Tryz.f4 rfl rfl rfl rfl rfl rfl rfl ⟨rfl, rfl, rfl, rfl, rfl⟩ rfl rfl rfl rfl rfl (by kernel_rfl) Tryz.func4 (by kernel_rfl)
    (of_decide_eq_true (by kernel_rfl)) (by unfold Func.isWrapper; first | (rw [if_pos (by decide +kernel)]; kernel_rfl) | (rw [if_neg (by decide +kernel)]; exact ⟨rfl, rfl⟩))
    (fun os started H enc _ => lifted os started H enc)

/-- ████ THE STATEMENT ████ -/
theorem proved : Rows.SemWordsSaid :=
  over
#print axioms proved
end Go.Proofs.YtblciblkocameaaGreat.semWords
