/- The law SemOrder of chapter 15 returns true whatever its arguments: the kernel runs the 32 programs that differ. No condition. -/
import Derived.Test.YtblciblkocameaaGreatRows
import Derived.Test.YtblciblkocameaaGreatOr0
import Derived.Test.YtblciblkocameaaGreatOr1
import Derived.Test.YtblciblkocameaaGreatOr2
import Derived.Test.YtblciblkocameaaGreatOr3
import Derived.WalkKit
import Derived.ProofKit
import Derived.OpenShut
namespace Go.Proofs.YtblciblkocameaaGreat.Sx
open Go Go.Proofs.YtblciblkocameaaGreat.Ev
theorem nat_ofO {a : Int} (h0 : (0 : Int) ≤ a) : ∃ n : Nat, a = .ofNat n := ⟨a.toNat, by show a = ((a.toNat : Nat) : Int); omega⟩
theorem all9 (a b : Nat) (ha : a < 8) (hb : b < 4) : o9 a b = true := by
  have h1 : a = 0 ∨ a = 1 ∨ a = 2 ∨ a = 3 ∨ a = 4 ∨ a = 5 ∨ a = 6 ∨ a = 7 := by omega
  have h2 : b = 0 ∨ b = 1 ∨ b = 2 ∨ b = 3 := by omega
  rcases h2 with rfl | rfl | rfl | rfl <;> rcases h1 with rfl | rfl | rfl | rfl | rfl | rfl | rfl | rfl
  · exact (and2O_eq _ _ gO0).1
  · exact (and2O_eq _ _ (and2O_eq _ _ gO0).2).1
  · exact (and2O_eq _ _ (and2O_eq _ _ (and2O_eq _ _ gO0).2).2).1
  · exact (and2O_eq _ _ (and2O_eq _ _ (and2O_eq _ _ gO0).2).2).2
  · exact (and2O_eq _ _ gO1).1
  · exact (and2O_eq _ _ (and2O_eq _ _ gO1).2).1
  · exact (and2O_eq _ _ (and2O_eq _ _ (and2O_eq _ _ gO1).2).2).1
  · exact (and2O_eq _ _ (and2O_eq _ _ (and2O_eq _ _ gO1).2).2).2
  · exact (and2O_eq _ _ gO2).1
  · exact (and2O_eq _ _ (and2O_eq _ _ gO2).2).1
  · exact (and2O_eq _ _ (and2O_eq _ _ (and2O_eq _ _ gO2).2).2).1
  · exact (and2O_eq _ _ (and2O_eq _ _ (and2O_eq _ _ gO2).2).2).2
  · exact (and2O_eq _ _ gO3).1
  · exact (and2O_eq _ _ (and2O_eq _ _ gO3).2).1
  · exact (and2O_eq _ _ (and2O_eq _ _ (and2O_eq _ _ gO3).2).2).1
  · exact (and2O_eq _ _ (and2O_eq _ _ (and2O_eq _ _ gO3).2).2).2
  · exact (and2O_eq _ _ gO4).1
  · exact (and2O_eq _ _ (and2O_eq _ _ gO4).2).1
  · exact (and2O_eq _ _ (and2O_eq _ _ (and2O_eq _ _ gO4).2).2).1
  · exact (and2O_eq _ _ (and2O_eq _ _ (and2O_eq _ _ gO4).2).2).2
  · exact (and2O_eq _ _ gO5).1
  · exact (and2O_eq _ _ (and2O_eq _ _ gO5).2).1
  · exact (and2O_eq _ _ (and2O_eq _ _ (and2O_eq _ _ gO5).2).2).1
  · exact (and2O_eq _ _ (and2O_eq _ _ (and2O_eq _ _ gO5).2).2).2
  · exact (and2O_eq _ _ gO6).1
  · exact (and2O_eq _ _ (and2O_eq _ _ gO6).2).1
  · exact (and2O_eq _ _ (and2O_eq _ _ (and2O_eq _ _ gO6).2).2).1
  · exact (and2O_eq _ _ (and2O_eq _ _ (and2O_eq _ _ gO6).2).2).2
  · exact (and2O_eq _ _ gO7).1
  · exact (and2O_eq _ _ (and2O_eq _ _ gO7).2).1
  · exact (and2O_eq _ _ (and2O_eq _ _ (and2O_eq _ _ gO7).2).2).1
  · exact (and2O_eq _ _ (and2O_eq _ _ (and2O_eq _ _ gO7).2).2).2
theorem run9 (x y : Nat) : isTrue (SF tabS 1000 9 [.int .u8 (.ofNat x), .int .u8 (.ofNat y)] ⟨.h, .leaf⟩ .no) = true := by
  rw [enter9, ← mod9]
  exact all9 (x % 8) (y % 4) (Nat.mod_lt _ (by omega)) (Nat.mod_lt _ (by omega))
end Go.Proofs.YtblciblkocameaaGreat.Sx
namespace Go.Proofs.YtblciblkocameaaGreat.semOrder
open Go.ChangeShapes Go.WideShapes Go.ChangeAt Go.RowKit
set_option linter.unusedVariables false      -- a walk need not use every 'w<i>' (that an integer argument fits its kind)

theorem own : ownKnob Tryz.prog.godebug = none := by kernel_rfl

/-! ### STEP 1: THE WALK: the Go text returns true. 'Grown w w'': the world has at most new blocks (Derived/RowKit3.lean). Part the cases AHEAD of 'go_enter' where a test parts the walk; take each callee by a contract of your own. -/
theorem walk (a0 : Int) (a1 : Int) (w0 : (Lit.int .u8 a0).wf = true) (w1 : (Lit.int .u8 a1).wf = true) (w : World) :
    Calls Tryz.prog 9 #[.int .u8 a0, .int .u8 a1] w fun e w' => e = .returned (.bool true) ∧ Grown w w' := by
  have h0 : (0 : Int) ≤ a0 := by
    simp [Lit.wf, IntKind.min, IntKind.max, IntKind.signed, IntKind.bits] at w0
    omega
  have h1 : (0 : Int) ≤ a1 := by
    simp [Lit.wf, IntKind.min, IntKind.max, IntKind.signed, IntKind.bits] at w1
    omega
  obtain ⟨x, rfl⟩ := Sx.nat_ofO h0
  obtain ⟨y, rfl⟩ := Sx.nat_ofO h1
  exact Ev.walk_S (vs := [.int .u8 (.ofNat x), .int .u8 (.ofNat y)]) (by kernel_rfl) Sx.okS (Sx.run9 x y) (.cons _ _ _ _ (.int _ _) (.cons _ _ _ _ (.int _ _) .nil)) w

/-! ### THE ROW's STEP: WRITTEN OUT: LEAVE IT -/
set_option maxRecDepth 100000 in
theorem lifted (os : Os) (started : os.Started) (H : Type) (enc : TypeId × Value → H) :
    ReturnsInHanded {} Tryz.checked os 9 .any (Rows.semOrderSpec.pre6 enc Tryz.prog Tryz.f9 Rows.semOrderRow.domain false) (Rows.semOrderSpec.post enc Tryz.prog Tryz.f9 false true false false) := by
  refine returnsInHanded_of_change (C := Tryz.checked) own started (by kernel_rfl) Tryz.func9
    (ChangeSpec.witness6 (enc := enc) (C := Tryz.checked) false ⟨#[], #[.int .u8 0, .int .u8 0], []⟩ 8 (by kernel_rfl) (by kernel_rfl) (by kernel_rfl) (by kernel_rfl)) ?_
  intro W base args ds gs before hval0 hW hcnd _
  have hval : ∀ (j : Nat) t v, Tryz.f9.params[j]? = some t → args[j]? = some v → Value.okWide Tryz.prog W .any base t v := hval0
  have hW' := hW
  obtain ⟨p, q, hA0, hV, rfl, hfz, hnd⟩ := hW
  have hA : DataW.TrodAll enc Tryz.prog W 0 (fun _ => true) true Tryz.f9.params.toList args.toList ds p := hA0
  rw [Tryz.params9] at hA hval
  obtain ⟨v0, vs0, d0, ds0, p0, q0, hargs, rfl, rfl, h0, r0⟩ := trodAll_cons hA
  obtain ⟨v1, vs1, d1, ds1, p1, q1, rfl, rfl, rfl, h1, r1⟩ := trodAll_cons r0
  obtain ⟨rfl, rfl, rfl⟩ := trodAll_nil r1
  obtain rfl : args = #[v0, v1] := by cases args; simp_all
  obtain ⟨rfl, rfl⟩ := trodVars_none hV
  obtain ⟨a0, rfl, rfl, rfl, w0⟩ := open_int Tryz.underlying5 (hval 0 5 v0 rfl rfl) h0
  obtain ⟨a1, rfl, rfl, rfl, w1⟩ := open_int Tryz.underlying5 (hval 1 5 v1 rfl rfl) h1
  clear hA0 hval0
  simp only [List.append_nil] at hW'
  refine (walk a0 a1 w0 w1 W).mono fun e W' ⟨he, hg⟩ => ?_
  subst he
  exact ⟨_, rfl, post_of_same (pa := []) (pv := []) hW' (fun _ _ _ => (trodAll_cons_mk (shut_bool Tryz.underlying4 _) trodAll_mk0)) (fun sp _ => (trodAll_cons_mk (shut_int Tryz.underlying5 w0) (trodAll_cons_mk (shut_int Tryz.underlying5 w1) trodAll_mk0))) (fun _ _ => rfl) rfl
    (hg.frame _) hg.2.1 (ok_one (by kernel_rfl) rfl (okWide_bool_mk Tryz.underlying4 _))⟩

theorem over : Rows.semOrderRow.holds Tryz.pinned (OpenSpec.ofChange Rows.semOrderSpec) :=
  OpenClaim.holds_of_wide 9 Tryz.f9 rfl rfl rfl rfl rfl rfl rfl ⟨rfl, rfl, rfl, rfl, rfl⟩ rfl rfl rfl rfl rfl (by kernel_rfl) Tryz.func9 (by kernel_rfl)
    (of_decide_eq_true (by kernel_rfl)) (by unfold Func.isWrapper; first | (rw [if_pos (by decide +kernel)]; kernel_rfl) | (rw [if_neg (by decide +kernel)]; exact ⟨rfl, rfl⟩))
    (fun os started H enc _ => lifted os started H enc)

/-- ████ THE STATEMENT ████ -/
theorem proved : Rows.SemOrderSaid :=
  over
#print axioms proved
end Go.Proofs.YtblciblkocameaaGreat.semOrder
