/- A function that answers words or truth values, whatever new things it leaves in memory, in the place of its text; words of which nothing is known may be among its arguments and answers. -/
import Derived.Test.YtcoldhmbmcdemaaGreatFz
set_option linter.unusedVariables false
namespace Go.Proofs.YtcoldhmbmcdemaaGreat.Ev
open Go
noncomputable section
variable [Rho]
theorem GB.on' {w0 w : World} {φ : Phi} {h : HP} (r : Rel w0 φ h w) : GB w := by
  obtain ⟨_, g1, g2⟩ := r.gb
  refine ⟨fun b l hb => Nat.lt_of_lt_of_le (g1 b l hb) r.size, fun b l k hb hk => ?_⟩
  have h1 := g2 b l k hb hk
  have h2 := g1 b l hb
  obtain ⟨vs, rfl⟩ := Rho.gro b k hk
  obtain ⟨cs, hv, hc⟩ := h1
  refine ⟨cs, hv, .inl ⟨Nat.lt_of_lt_of_le h2 r.size, ?_⟩⟩
  rcases hc with ⟨_, hc⟩ | ⟨hge, _⟩
  · intro i v hi
    have := hc i v hi
    rw [← this]
    simp only [World.cell?, r.old _ h2]
  · exact absurd h2 (by omega)
theorem Rel.over0 {w0 w w' : World} {φ φ1 : Phi} {h h1 : HP} (r : Rel w0 φ h w) (r1 : Rel w φ1 h1 w') : Rel w0 φ h w' ∧ Ext φ h w φ h w' :=
  ⟨⟨r1.os.trans r.os, r1.tape.trans r.tape, r1.output.trans r.output, Nat.le_trans r.size r1.size, fun i hi => by rw [r1.old i (by have := r.size; omega)]; exact r.old i hi, r.gb, r.wf, fun b l hb => ⟨(r.dom b l hb).1, Nat.lt_of_lt_of_le (r.dom b l hb).2 r1.size⟩, fun b l k hb hk => (r.ok b l k hb hk).step (.refl φ) (r1.old _ (r.dom b l hb).2), r.inj⟩, ⟨.refl φ, Nat.le_refl _, r1.size, fun b hb hn => ⟨hn, rfl⟩⟩⟩
theorem RV.word {φ ψ : Phi} {v : Value} {k : IntKind} {n : Int} (h : RV φ v (.int k n)) : RV ψ v (.int k n) := by
  cases h with
  | int _ _ h => exact .int _ _ h
  | tok i => exact .tok i
  | tok64 i h => exact .tok64 i h
theorem RVs.words {φ ψ : Phi} {vs : List Value} {as : List AV} (h : RVs φ vs as) (ha : ∀ a ∈ as, ∃ k n, a = .int k n) : RVs ψ vs as := by
  induction vs generalizing as with
  | nil => cases h; exact .nil
  | cons v vs ih => cases h with
    | cons _ a _ as h hs =>
      obtain ⟨k, n, rfl⟩ := ha a (by simp)
      exact .cons _ _ _ _ h.word (ih hs fun a ha' => ha a (by simp [ha']))
theorem pr_rett {P : Program} {t : ST} (hP : P.follows .mixedOrders = true) (ht : ST.Ok P t) {n f : Nat} (hc : Callable P f) {p : List AV → Option AV}
    (hp : ∀ as v, p as = some v → (∀ a ∈ as, ∃ k n, a = .int k n) ∧ ∃ v' h2, SF t n f (as.map resT) Rho.g0 .no = some (.ret v' h2, .no) ∧ ∀ φ ψ x, RV φ x v' → RV ψ x v) (w0 : World) : PrOk P w0 f (noH p) := by
  refine ⟨hc, fun as r φ h w vs hq rel hvs => ?_⟩
  unfold noH at hq
  cases hv : p as with
  | none => rw [hv] at hq; have hq : (none : Option (AV × HP)) = some r := hq; simp at hq
  | some v =>
    rw [hv] at hq
    have hq : some (v, h) = some r := hq
    obtain rfl := Option.some.inj hq
    obtain ⟨ha, v', h2, hs, hle⟩ := hp as v hv
    refine Calls.mono (calls_ok hP (ST.xok w ht) (ST.tab_ok ht) (SF_ok ht n _ _ _ _ _ hs) (rel_start (GB.on' rel)) (hvs.words ha).resT) fun e w' hR => ?_
    cases e with
    | returned x =>
      obtain ⟨φ', a, h', hf, hr, r, _⟩ := hR
      simp only [Fin.ret.injEq] at hf
      obtain ⟨rfl, rfl⟩ := hf
      obtain ⟨g1, g2⟩ := rel.over0 r
      exact ⟨φ, v, h, rfl, hle _ _ _ hr, g1, g2⟩
    | panicked ch => obtain ⟨_, _, _, hf, _⟩ := hR; simp at hf
    | outgrown => exact hR.elim
end
end Go.Proofs.YtcoldhmbmcdemaaGreat.Ev
