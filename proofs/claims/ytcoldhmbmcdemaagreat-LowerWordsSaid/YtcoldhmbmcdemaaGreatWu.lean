/- LowerWords: only the remainder of the operator's number matters; the document's operation as a function that always answers; a run at words of which nothing is known. -/
import Derived.Test.YtcoldhmbmcdemaaGreatMo
set_option linter.unusedVariables false
set_option linter.unusedSimpArgs false
namespace Go.Proofs.YtcoldhmbmcdemaaGreat.Sx
open Go Go.Proofs.YtcoldhmbmcdemaaGreat.Ev
noncomputable section
def doV (V : Nat → Nat → Nat → Int) (B : Nat → Nat → Nat → Bool) (xs : List AV) : Option AV :=
  match xs with
  | [.int .i64 (.ofNat op), .int .u32 (.ofNat a), .int .u32 (.ofNat b)] => some (.tup [.int .u32 (V op a b), .bool (B op a b)])
  | _ => none
def tabW (V : Nat → Nat → Nat → Int) (B : Nat → Nat → Nat → Bool) : ST := .node 11 tabS (.node 12 (.pr 12 (noH (doV V B))) tabS)
theorem okW : ST.Ok Tryz.prog (tabW doW doB) := .node _ _ _ okS (.node _ _ _ (.pr _ _ fun w0 => pr_of (by kernel_rfl) okS (n := 60) ⟨_, Tryz.func12, by kernel_rfl, by decide +kernel⟩ (noH_of fun xs v h hp => do_pr xs v h hp) w0) okS)
def oW (V : Nat → Nat → Nat → Int) (B : Nat → Nat → Nat → Bool) (c a b : Nat) : Bool := retB (S4_0 (SF (tabW V B) 999) 999 (Int.ofNat c) (Int.ofNat a) (Int.ofNat b) ⟨.h, .leaf⟩)
theorem tmod11 (n : Nat) : Int.tmod (Int.ofNat n) (Int.ofNat 11) = Int.ofNat (n % 11) := rfl
theorem modW (D : CallD) (m x : Nat) (a b : Int) (h : HP) : S4_0 D m (.ofNat (x % 11)) a b h = S4_0 D m (.ofNat x) a b h := by
  unfold S4_0; simp only [tmod11, Nat.mod_mod]
theorem enterW (V : Nat → Nat → Nat → Int) (B : Nat → Nat → Nat → Bool) (x a b : Int) : SF (tabW V B) 1000 4 [.int .u8 x, .int .u32 a, .int .u32 b] ⟨.h, .leaf⟩ .no = S4_0 (SF (tabW V B) 999) 999 x a b ⟨.h, .leaf⟩ := by kernel_rfl
end
end Go.Proofs.YtcoldhmbmcdemaaGreat.Sx
