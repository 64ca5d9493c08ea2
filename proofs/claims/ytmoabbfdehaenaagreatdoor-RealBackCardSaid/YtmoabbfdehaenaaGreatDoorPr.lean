/- A function that answers a plain value, whatever new things it leaves in memory: in the place of its text. -/
import Derived.Test.YtmoabbfdehaenaaGreatDoorFz
set_option linter.unusedVariables false
namespace Go.Proofs.YtmoabbfdehaenaaGreatDoor.Ev
open Go
noncomputable section
theorem pr_ret [Rho] {P : Program} {t : ST} (hP : P.follows .mixedOrders = true) (ht : ST.Ok P t) {n f : Nat} (hc : Callable P f) {p : List AV → HP → Option (AV × HP)}
    (hp : ∀ as h x, p as h = some x → plains as = true ∧ plain x.1 = true ∧ emb h x.1 [] = some x ∧ ∃ h2, SF t n f as Rho.g0 .no = some (.ret x.1 h2, .no)) (w0 : World) : PrOk P w0 f p := by
  refine ⟨hc, fun as x φ h w vs hx r hv => ?_⟩
  obtain ⟨h1, h2, h3, h4, h5⟩ := hp as h x hx
  refine Calls.mono (calls_ok hP (ST.xok w ht) (ST.tab_ok ht) (SF_ok ht n _ _ _ _ _ h5) (rel_start (GB.on r)) (hv.plain h1)) fun ed w' hR => ?_
  cases ed with
  | returned y =>
    obtain ⟨φ', a', h', hf, hr, r', _⟩ := hR
    simp only [Fin.ret.injEq] at hf
    obtain ⟨rfl, rfl⟩ := hf
    have lf : Left w w' φ' y x.1 [] := ⟨hr, fun i k l hi => by simp at hi, fun i j l l' hi => by simp at hi⟩
    obtain ⟨χ, g1, g2, g3⟩ := lf.over r r' h3
    exact ⟨χ, _, _, rfl, g1, g2, g3⟩
  | panicked ch => obtain ⟨_, _, _, hf, _⟩ := hR; simp at hf
  | outgrown => exact hR.elim
/-- The same, where the words among the arguments are words. -/
theorem pr_ret32 [Rho] {P : Program} {t : ST} (hP : P.follows .mixedOrders = true) (ht : ST.Ok P t) {n f : Nat} (hc : Callable P f) {p : List AV → HP → Option (AV × HP)}
    (hp : ∀ as h x, (∀ n : Nat, AV.int .u32 (.ofNat n) ∈ as → n ≤ 4294967295) → p as h = some x → plains as = true ∧ plain x.1 = true ∧ emb h x.1 [] = some x ∧ ∃ h2, SF t n f as Rho.g0 .no = some (.ret x.1 h2, .no)) (w0 : World) : PrOk P w0 f p := by
  refine ⟨hc, fun as x φ h w vs hx r hv => ?_⟩
  obtain ⟨h1, h2, h3, h4, h5⟩ := hp as h x hv.le32 hx
  refine Calls.mono (calls_ok hP (ST.xok w ht) (ST.tab_ok ht) (SF_ok ht n _ _ _ _ _ h5) (rel_start (GB.on r)) (hv.plain h1)) fun ed w' hR => ?_
  cases ed with
  | returned y =>
    obtain ⟨φ', a', h', hf, hr, r', _⟩ := hR
    simp only [Fin.ret.injEq] at hf
    obtain ⟨rfl, rfl⟩ := hf
    have lf : Left w w' φ' y x.1 [] := ⟨hr, fun i k l hi => by simp at hi, fun i j l l' hi => by simp at hi⟩
    obtain ⟨χ, g1, g2, g3⟩ := lf.over r r' h3
    exact ⟨χ, _, _, rfl, g1, g2, g3⟩
  | panicked ch => obtain ⟨_, _, _, hf, _⟩ := hR; simp at hf
  | outgrown => exact hR.elim
end
end Go.Proofs.YtmoabbfdehaenaaGreatDoor.Ev
