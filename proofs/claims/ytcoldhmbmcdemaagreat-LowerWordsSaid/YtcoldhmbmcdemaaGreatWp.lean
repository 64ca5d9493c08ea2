/- The law LowerWords of chapter 17 returns true whatever its arguments: the kernel runs it at words of which nothing is known; what the document's operation answers stands on both sides. No condition. -/
import Derived.Test.YtcoldhmbmcdemaaGreatRows
import Derived.Test.YtcoldhmbmcdemaaGreatWr0
import Derived.Test.YtcoldhmbmcdemaaGreatWr1
import Derived.Test.YtcoldhmbmcdemaaGreatWr2
import Derived.WalkKit
import Derived.ProofKit
import Derived.OpenShut
namespace Go.Proofs.YtcoldhmbmcdemaaGreat.Sx
open Go Go.Proofs.YtcoldhmbmcdemaaGreat.Ev
theorem allW (c a b : Nat) (hc : c < 11) : oW doW doB c a b = true := by
  have h : c = 0 ∨ c = 1 ∨ c = 2 ∨ c = 3 ∨ c = 4 ∨ c = 5 ∨ c = 6 ∨ c = 7 ∨ c = 8 ∨ c = 9 ∨ c = 10 := by omega
  rcases h with rfl | rfl | rfl | rfl | rfl | rfl | rfl | rfl | rfl | rfl | rfl
  · rw [gW0]; exact eqQ_self _
  · rw [gW1]; exact eqQ_self _
  · rw [gW2]; exact eqQ_self _
  · rw [gW3]; exact eqQ_self _
  · rw [gW4]; exact eqQ_self _
  · rw [gW5]; exact eqQ_self _
  · rw [gW6]; exact eqQ_self _
  · rw [gW7]; exact eqQ_self _
  · rw [gW8]; exact eqQ_self _
  · rw [gW9]; exact eqQ_self _
  · rw [gW10]; exact eqQ_self _
theorem runW (x a b : Nat) : isTrue (SF (tabW doW doB) 1000 4 [.int .u8 (.ofNat x), .int .u32 (.ofNat a), .int .u32 (.ofNat b)] ⟨.h, .leaf⟩ .no) = true := by
  rw [enterW, ← modW]
  exact isTrue_retB (allW (x % 11) a b (Nat.mod_lt _ (by omega)))
theorem nat_ofW {a : Int} (h0 : (0 : Int) ≤ a) : ∃ n : Nat, a = .ofNat n := ⟨a.toNat, by show a = ((a.toNat : Nat) : Int); omega⟩
end Go.Proofs.YtcoldhmbmcdemaaGreat.Sx
namespace Go.Proofs.YtcoldhmbmcdemaaGreat.lowerWords
open Go.ChangeShapes Go.WideShapes Go.ChangeAt Go.RowKit
set_option linter.unusedVariables false      -- a walk need not use every 'w<i>' (that an integer argument fits its kind)

theorem own : ownKnob Tryz.prog.godebug = none := by kernel_rfl

/-! ### STEP 1: THE WALK: the Go text returns true. 'Ev.GrownO w w'': the world has at most new blocks (Derived/RowKit3.lean). Part the cases AHEAD of 'go_enter' where a test parts the walk; take each callee by a contract of your own. -/
theorem walk (a0 : Int) (a1 : Int) (a2 : Int) (w0 : (Lit.int .u8 a0).wf = true) (w1 : (Lit.int .u32 a1).wf = true) (w2 : (Lit.int .u32 a2).wf = true) (w : World) :
    Calls Tryz.prog 4 #[.int .u8 a0, .int .u32 a1, .int .u32 a2] w fun e w' => e = .returned (.bool true) ∧ Ev.GrownO w w' := by
  have h0 : (0 : Int) ≤ a0 := by
    simp [Lit.wf, IntKind.min, IntKind.max, IntKind.signed, IntKind.bits] at w0
    omega
  have h1 : (0 : Int) ≤ a1 := by
    simp [Lit.wf, IntKind.min, IntKind.max, IntKind.signed, IntKind.bits] at w1
    omega
  have h2 : (0 : Int) ≤ a2 := by
    simp [Lit.wf, IntKind.min, IntKind.max, IntKind.signed, IntKind.bits] at w2
    omega
  obtain ⟨x, rfl⟩ := Sx.nat_ofW h0
  obtain ⟨y, rfl⟩ := Sx.nat_ofW h1
  obtain ⟨z, rfl⟩ := Sx.nat_ofW h2
  exact Ev.walk_S (vs := [.int .u8 (.ofNat x), .int .u32 (.ofNat y), .int .u32 (.ofNat z)]) (by kernel_rfl) Sx.okW (Sx.runW x y z) (.cons _ _ _ _ (.int _ _) (.cons _ _ _ _ (.int _ _) (.cons _ _ _ _ (.int _ _) .nil))) w

/-! ### THE ROW's STEP: WRITTEN OUT: LEAVE IT -/
set_option maxRecDepth 100000 in
theorem lifted (os : Os) (started : os.Started) (H : Type) (enc : TypeId × Value → H) :
    ReturnsInHanded {} Tryz.checked os 4 .any (Rows.lowerWordsSpec.pre6 enc Tryz.prog Tryz.f4 Rows.lowerWordsRow.domain false) (Rows.lowerWordsSpec.post enc Tryz.prog Tryz.f4 false true false false) := by
  refine returnsInHanded_of_change (C := Tryz.checked) own started (by kernel_rfl) Tryz.func4
    (ChangeSpec.witness6 (enc := enc) (C := Tryz.checked) false ⟨#[], #[.int .u8 0, .int .u32 0, .int .u32 0], []⟩ 8 (by kernel_rfl) (by kernel_rfl) (by kernel_rfl) (by kernel_rfl)) ?_
  intro W base args ds gs before hval0 hW hcnd _
  have hval : ∀ (j : Nat) t v, Tryz.f4.params[j]? = some t → args[j]? = some v → Value.okWide Tryz.prog W .any base t v := hval0
  have hW' := hW
  obtain ⟨p, q, hA0, hV, rfl, hfz, hnd⟩ := hW
  have hA : DataW.TrodAll enc Tryz.prog W 0 (fun _ => true) true Tryz.f4.params.toList args.toList ds p := hA0
  rw [Tryz.params4] at hA hval
  obtain ⟨v0, vs0, d0, ds0, p0, q0, hargs, rfl, rfl, h0, r0⟩ := trodAll_cons hA
  obtain ⟨v1, vs1, d1, ds1, p1, q1, rfl, rfl, rfl, h1, r1⟩ := trodAll_cons r0
  obtain ⟨v2, vs2, d2, ds2, p2, q2, rfl, rfl, rfl, h2, r2⟩ := trodAll_cons r1
  obtain ⟨rfl, rfl, rfl⟩ := trodAll_nil r2
  obtain rfl : args = #[v0, v1, v2] := by cases args; simp_all
  obtain ⟨rfl, rfl⟩ := trodVars_none hV
  obtain ⟨a0, rfl, rfl, rfl, w0⟩ := open_int Tryz.underlying5 (hval 0 5 v0 rfl rfl) h0
  obtain ⟨a1, rfl, rfl, rfl, w1⟩ := open_int Tryz.underlying24 (hval 1 24 v1 rfl rfl) h1
  obtain ⟨a2, rfl, rfl, rfl, w2⟩ := open_int Tryz.underlying24 (hval 2 24 v2 rfl rfl) h2
  clear hA0 hval0
  simp only [List.append_nil] at hW'
  refine (walk a0 a1 a2 w0 w1 w2 W).mono fun e W' ⟨he, hg⟩ => ?_
  subst he
  exact ⟨_, rfl, Ev.post_of_old (pa := []) (pv := []) hW' (fun _ _ _ => (trodAll_cons_mk (shut_bool Tryz.underlying4 _) trodAll_mk0)) (fun sp _ => (trodAll_cons_mk (shut_int Tryz.underlying5 w0) (trodAll_cons_mk (shut_int Tryz.underlying24 w1) (trodAll_cons_mk (shut_int Tryz.underlying24 w2) trodAll_mk0)))) (fun _ _ => rfl) rfl
    hg (ok_one (by kernel_rfl) rfl (okWide_bool_mk Tryz.underlying4 _))⟩

theorem over : Rows.lowerWordsRow.holds Tryz.pinned (OpenSpec.ofChange Rows.lowerWordsSpec) :=
  OpenClaim.holds_of_wide 4 Tryz.f4 rfl rfl rfl rfl rfl rfl rfl ⟨rfl, rfl, rfl, rfl, rfl⟩ rfl rfl rfl rfl rfl (by kernel_rfl) Tryz.func4 (by kernel_rfl)
    (of_decide_eq_true (by kernel_rfl)) (by unfold Func.isWrapper; first | (rw [if_pos (by decide +kernel)]; kernel_rfl) | (rw [if_neg (by decide +kernel)]; exact ⟨rfl, rfl⟩))
    (fun os started H enc _ => lifted os started H enc)

/-- ████ THE STATEMENT ████ -/
theorem proved : Rows.LowerWordsSaid :=
  over
#print axioms proved
end Go.Proofs.YtcoldhmbmcdemaaGreat.lowerWords
