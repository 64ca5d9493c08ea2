/- The law SemSums of chapter 15 returns true whatever its argument: the kernel runs the 101 lengths with the words left open; nothing is run above 100. No condition. -/
import Derived.Test.YtblciblkocameaaGreatRows
import Derived.Test.YtblciblkocameaaGreatHr0
import Derived.Test.YtblciblkocameaaGreatHr1
import Derived.Test.YtblciblkocameaaGreatHr2
import Derived.Test.YtblciblkocameaaGreatHr3
import Derived.Test.YtblciblkocameaaGreatHr4
import Derived.Test.YtblciblkocameaaGreatHr5
import Derived.Test.YtblciblkocameaaGreatHr6
import Derived.Test.YtblciblkocameaaGreatHr7
import Derived.Test.YtblciblkocameaaGreatHr8
import Derived.Test.YtblciblkocameaaGreatHr9
import Derived.Test.YtblciblkocameaaGreatHr10
import Derived.WalkKit
import Derived.ProofKit
import Derived.OpenShut
import Derived.Carry
import Derived.Lib.LaidU8
set_option linter.unusedVariables false
namespace Go.Proofs.YtblciblkocameaaGreat.Sx
open Go Go.Proofs.YtblciblkocameaaGreat.Ev
theorem allE0 (i : Nat) (hi : i < 10) : oE (.slice .h 0 (0 + i) .unk) (h0E (toksE (0 + i) 0)) = true := by
  have h1 : i = 0 ∨ i = 1 ∨ i = 2 ∨ i = 3 ∨ i = 4 ∨ i = 5 ∨ i = 6 ∨ i = 7 ∨ i = 8 ∨ i = 9 := by omega
  rcases h1 with rfl | rfl | rfl | rfl | rfl | rfl | rfl | rfl | rfl | rfl
  · exact g0
  · exact g1
  · exact g2
  · exact g3
  · exact g4
  · exact g5
  · exact g6
  · exact g7
  · exact g8
  · exact g9
theorem allE1 (i : Nat) (hi : i < 10) : oE (.slice .h 0 (10 + i) .unk) (h0E (toksE (10 + i) 0)) = true := by
  have h1 : i = 0 ∨ i = 1 ∨ i = 2 ∨ i = 3 ∨ i = 4 ∨ i = 5 ∨ i = 6 ∨ i = 7 ∨ i = 8 ∨ i = 9 := by omega
  rcases h1 with rfl | rfl | rfl | rfl | rfl | rfl | rfl | rfl | rfl | rfl
  · exact g10
  · exact g11
  · exact g12
  · exact g13
  · exact g14
  · exact g15
  · exact g16
  · exact g17
  · exact g18
  · exact g19
theorem allE2 (i : Nat) (hi : i < 10) : oE (.slice .h 0 (20 + i) .unk) (h0E (toksE (20 + i) 0)) = true := by
  have h1 : i = 0 ∨ i = 1 ∨ i = 2 ∨ i = 3 ∨ i = 4 ∨ i = 5 ∨ i = 6 ∨ i = 7 ∨ i = 8 ∨ i = 9 := by omega
  rcases h1 with rfl | rfl | rfl | rfl | rfl | rfl | rfl | rfl | rfl | rfl
  · exact g20
  · exact g21
  · exact g22
  · exact g23
  · exact g24
  · exact g25
  · exact g26
  · exact g27
  · exact g28
  · exact g29
theorem allE3 (i : Nat) (hi : i < 10) : oE (.slice .h 0 (30 + i) .unk) (h0E (toksE (30 + i) 0)) = true := by
  have h1 : i = 0 ∨ i = 1 ∨ i = 2 ∨ i = 3 ∨ i = 4 ∨ i = 5 ∨ i = 6 ∨ i = 7 ∨ i = 8 ∨ i = 9 := by omega
  rcases h1 with rfl | rfl | rfl | rfl | rfl | rfl | rfl | rfl | rfl | rfl
  · exact g30
  · exact g31
  · exact g32
  · exact g33
  · exact g34
  · exact g35
  · exact g36
  · exact g37
  · exact g38
  · exact g39
theorem allE4 (i : Nat) (hi : i < 10) : oE (.slice .h 0 (40 + i) .unk) (h0E (toksE (40 + i) 0)) = true := by
  have h1 : i = 0 ∨ i = 1 ∨ i = 2 ∨ i = 3 ∨ i = 4 ∨ i = 5 ∨ i = 6 ∨ i = 7 ∨ i = 8 ∨ i = 9 := by omega
  rcases h1 with rfl | rfl | rfl | rfl | rfl | rfl | rfl | rfl | rfl | rfl
  · exact g40
  · exact g41
  · exact g42
  · exact g43
  · exact g44
  · exact g45
  · exact g46
  · exact g47
  · exact g48
  · exact g49
theorem allE5 (i : Nat) (hi : i < 10) : oE (.slice .h 0 (50 + i) .unk) (h0E (toksE (50 + i) 0)) = true := by
  have h1 : i = 0 ∨ i = 1 ∨ i = 2 ∨ i = 3 ∨ i = 4 ∨ i = 5 ∨ i = 6 ∨ i = 7 ∨ i = 8 ∨ i = 9 := by omega
  rcases h1 with rfl | rfl | rfl | rfl | rfl | rfl | rfl | rfl | rfl | rfl
  · exact g50
  · exact g51
  · exact g52
  · exact g53
  · exact g54
  · exact g55
  · exact g56
  · exact g57
  · exact g58
  · exact g59
theorem allE6 (i : Nat) (hi : i < 10) : oE (.slice .h 0 (60 + i) .unk) (h0E (toksE (60 + i) 0)) = true := by
  have h1 : i = 0 ∨ i = 1 ∨ i = 2 ∨ i = 3 ∨ i = 4 ∨ i = 5 ∨ i = 6 ∨ i = 7 ∨ i = 8 ∨ i = 9 := by omega
  rcases h1 with rfl | rfl | rfl | rfl | rfl | rfl | rfl | rfl | rfl | rfl
  · exact g60
  · exact g61
  · exact g62
  · exact g63
  · exact g64
  · exact g65
  · exact g66
  · exact g67
  · exact g68
  · exact g69
theorem allE7 (i : Nat) (hi : i < 10) : oE (.slice .h 0 (70 + i) .unk) (h0E (toksE (70 + i) 0)) = true := by
  have h1 : i = 0 ∨ i = 1 ∨ i = 2 ∨ i = 3 ∨ i = 4 ∨ i = 5 ∨ i = 6 ∨ i = 7 ∨ i = 8 ∨ i = 9 := by omega
  rcases h1 with rfl | rfl | rfl | rfl | rfl | rfl | rfl | rfl | rfl | rfl
  · exact g70
  · exact g71
  · exact g72
  · exact g73
  · exact g74
  · exact g75
  · exact g76
  · exact g77
  · exact g78
  · exact g79
theorem allE8 (i : Nat) (hi : i < 10) : oE (.slice .h 0 (80 + i) .unk) (h0E (toksE (80 + i) 0)) = true := by
  have h1 : i = 0 ∨ i = 1 ∨ i = 2 ∨ i = 3 ∨ i = 4 ∨ i = 5 ∨ i = 6 ∨ i = 7 ∨ i = 8 ∨ i = 9 := by omega
  rcases h1 with rfl | rfl | rfl | rfl | rfl | rfl | rfl | rfl | rfl | rfl
  · exact g80
  · exact g81
  · exact g82
  · exact g83
  · exact g84
  · exact g85
  · exact g86
  · exact g87
  · exact g88
  · exact g89
theorem allE9 (i : Nat) (hi : i < 10) : oE (.slice .h 0 (90 + i) .unk) (h0E (toksE (90 + i) 0)) = true := by
  have h1 : i = 0 ∨ i = 1 ∨ i = 2 ∨ i = 3 ∨ i = 4 ∨ i = 5 ∨ i = 6 ∨ i = 7 ∨ i = 8 ∨ i = 9 := by omega
  rcases h1 with rfl | rfl | rfl | rfl | rfl | rfl | rfl | rfl | rfl | rfl
  · exact g90
  · exact g91
  · exact g92
  · exact g93
  · exact g94
  · exact g95
  · exact g96
  · exact g97
  · exact g98
  · exact g99
theorem allE10 (i : Nat) (hi : i < 1) : oE (.slice .h 0 (100 + i) .unk) (h0E (toksE (100 + i) 0)) = true := by
  have h1 : i = 0 := by omega
  rcases h1 with rfl
  · exact g100
theorem allE (n : Nat) (hn : n ≤ 100) : oE (.slice .h 0 n .unk) (h0E (toksE n 0)) = true := by
  have h : (0 ≤ n ∧ n < 10) ∨ (10 ≤ n ∧ n < 20) ∨ (20 ≤ n ∧ n < 30) ∨ (30 ≤ n ∧ n < 40) ∨ (40 ≤ n ∧ n < 50) ∨ (50 ≤ n ∧ n < 60) ∨ (60 ≤ n ∧ n < 70) ∨ (70 ≤ n ∧ n < 80) ∨ (80 ≤ n ∧ n < 90) ∨ (90 ≤ n ∧ n < 100) ∨ (100 ≤ n ∧ n < 101) := by omega
  rcases h with ⟨h1, h2⟩ | ⟨h1, h2⟩ | ⟨h1, h2⟩ | ⟨h1, h2⟩ | ⟨h1, h2⟩ | ⟨h1, h2⟩ | ⟨h1, h2⟩ | ⟨h1, h2⟩ | ⟨h1, h2⟩ | ⟨h1, h2⟩ | ⟨h1, h2⟩
  · have := allE0 (n - 0) (by omega); rwa [show 0 + (n - 0) = n from by omega] at this
  · have := allE1 (n - 10) (by omega); rwa [show 10 + (n - 10) = n from by omega] at this
  · have := allE2 (n - 20) (by omega); rwa [show 20 + (n - 20) = n from by omega] at this
  · have := allE3 (n - 30) (by omega); rwa [show 30 + (n - 30) = n from by omega] at this
  · have := allE4 (n - 40) (by omega); rwa [show 40 + (n - 40) = n from by omega] at this
  · have := allE5 (n - 50) (by omega); rwa [show 50 + (n - 50) = n from by omega] at this
  · have := allE6 (n - 60) (by omega); rwa [show 60 + (n - 60) = n from by omega] at this
  · have := allE7 (n - 70) (by omega); rwa [show 70 + (n - 70) = n from by omega] at this
  · have := allE8 (n - 80) (by omega); rwa [show 80 + (n - 80) = n from by omega] at this
  · have := allE9 (n - 90) (by omega); rwa [show 90 + (n - 90) = n from by omega] at this
  · have := allE10 (n - 100) (by omega); rwa [show 100 + (n - 100) = n from by omega] at this
end Go.Proofs.YtblciblkocameaaGreat.Sx
namespace Go.Proofs.YtblciblkocameaaGreat.semSums
open Go Go.ChangeShapes Go.WideShapes Go.ChangeAt Go.RowKit Go.Proofs.YtblciblkocameaaGreat.Ev Go.Proofs.YtblciblkocameaaGreat.Sx
theorem own : ownKnob Tryz.prog.godebug = none := by kernel_rfl
theorem laidOut : laidOutB Tryz.prog = true := by kernel_rfl
theorem cells32 : Tryz.prog.cellsOf 32 = 1 := by kernel_rfl

/-- The walk, at a reading of the tokens. -/
theorem walk_at (r : Nat → Nat) (lt : ∀ i, r i ≤ 4294967295) (ad : AdE r) {t : ST} (ht : @ST.Ok (rhoE r lt ad) Tryz.prog t) {xs : List AV} {h : HP} {vs : List Value} {φ : Phi} {w : World} (R : @Rel (rhoE r lt ad) w φ h w) (hv : @RVs (rhoE r lt ad) φ vs xs) (he : Ev.isTrue (SF t 1000 5 xs h .no) = true) :
    Calls Tryz.prog 5 vs.toArray w fun e w' => e = .returned (.bool true) ∧ GrownO w w' ∧ Below w.heap.size w w' := by
  letI := rhoE r lt ad
  unfold Ev.isTrue at he
  split at he
  · rename_i h' u hh
    refine Calls.mono (calls_ok (by kernel_rfl) (ST.xok w ht) (ST.tab_ok ht) (SF_ok ht 1000 _ _ _ _ _ hh) R hv) fun e w' hR => ?_
    cases e with
    | returned v =>
      obtain ⟨φ', a, h', hf, hr, q, _⟩ := hR
      simp only [Fin.ret.injEq] at hf
      obtain ⟨rfl, rfl⟩ := hf
      cases hr
      exact ⟨rfl, grown_of q, ⟨q.os, q.tape, q.output, q.size, q.old⟩⟩
    | panicked ch => obtain ⟨_, _, _, hf, _⟩ := hR; simp at hf
    | outgrown => exact hR.elim
  · simp at he

theorem wf32 {z : Int} (w : (Lit.int .u32 z).wf = true) : 0 ≤ z ∧ z ≤ 4294967295 := by
  simp [Lit.wf, IntKind.min, IntKind.max, IntKind.signed, IntKind.bits] at w; omega

def ix (k : Nat) : Nat := Nat.add (Nat.mul k 128) (Nat.succ k)
theorem rvs_toks (r : Nat → Nat) (lt : ∀ i, r i ≤ 4294967295) (ad : AdE r) {φ : Phi} : ∀ n k, @RVs (rhoE r lt ad) φ ((List.range' k n).map fun i => Value.int .u32 (Int.ofNat (r (ix i)))) (toksE n k)
  | 0, k => @RVs.nil (rhoE r lt ad) φ
  | n + 1, k => by
    letI := rhoE r lt ad
    show RVs φ (Value.int .u32 (Int.ofNat (r (ix k))) :: (List.range' (k + 1) n).map fun i => Value.int .u32 (Int.ofNat (r (ix i)))) (.int .u32 (.negSucc (ix k)) :: toksE n (k + 1))
    exact .cons _ _ _ _ (.tok (ix k)) (rvs_toks r lt ad n (k + 1))

def pre (zs : List Int) (n : Nat) : Int := Nat.rec 0 (fun t ih => ih + zs.getD t 0) n
def rS (zs : List Int) (c : Nat) : Nat := ((pre zs (c % 128) - pre zs (c / 128)) % 4294967296).toNat
theorem rS_lt (zs : List Int) (c : Nat) : rS zs c ≤ 4294967295 := by unfold rS; omega
theorem rS_ad (zs : List Int) : AdE (rS zs) := fun _ a b h => by
  have h : a % 128 = b / 128 := h
  show (rS zs a + rS zs b) % 4294967296 = rS zs (a / 128 * 128 + b % 128)
  unfold rS
  have e1 : (a / 128 * 128 + b % 128) % 128 = b % 128 := by omega
  have e2 : (a / 128 * 128 + b % 128) / 128 = a / 128 := by omega
  rw [e1, e2, h]
  generalize pre zs (b / 128) = y
  generalize pre zs (a / 128) = x
  generalize pre zs (b % 128) = z
  omega
theorem rS_ix (zs : List Int) (i : Nat) (hi : i ≤ 100) (h0 : 0 ≤ zs.getD i 0) (h1 : zs.getD i 0 ≤ 4294967295) : zs.getD i 0 = Int.ofNat (rS zs (ix i)) := by
  have e1 : ix i % 128 = i + 1 := by show (i * 128 + (i + 1)) % 128 = _; omega
  have e2 : ix i / 128 = i := by show (i * 128 + (i + 1)) / 128 = _; omega
  unfold rS
  rw [e1, e2]
  have e3 : pre zs (i + 1) = pre zs i + zs.getD i 0 := rfl
  rw [e3]
  generalize pre zs i = x at *
  generalize zs.getD i 0 = y at *
  show y = ((((x + y - x) % 4294967296).toNat : Nat) : Int)
  omega

theorem walk_nil (w : World) :
    Calls Tryz.prog 5 #[.slice none 0 0] w fun e w' => e = .returned (.bool true) ∧ GrownO w w' ∧ Below w.heap.size w w' := by
  have lt := rS_lt []
  have ad := rS_ad []
  generalize rS [] = r at lt ad
  letI := rhoE r lt ad
  exact walk_at r lt ad (okT r lt ad) (vs := [.slice none 0 0]) (xs := [.nils]) (rel_start (GB.plain (r := r) (lt := lt) (h0 := rfl) (ad := ad) w)) (.cons _ _ _ _ .nils .nil) gN

theorem walk_row {w : World} (a : Addr) (len cap : Nat) (zs : List Int) (hl : len ≤ cap) (hz : zs.length = cap) (hb : 0 < len → a.block < w.heap.size)
    (hcell : ∀ i, i < zs.length → w.cell? (a.add i) = some (.int .u32 (zs.getD i 0))) (hw : ∀ n ∈ zs, (Lit.int .u32 n).wf = true) :
    Calls Tryz.prog 5 #[.slice (some a) len cap] w fun e w' => e = .returned (.bool true) ∧ GrownO w w' ∧ Below w.heap.size w w' := by
  have hr : ∀ i, i ≤ 100 → i < zs.length → zs.getD i 0 = Int.ofNat (rS zs (ix i)) := fun i h hi => by
    have hm : zs.getD i 0 ∈ zs := by rw [List.getD_eq_getElem?_getD, List.getElem?_eq_getElem hi]; exact List.getElem_mem hi
    obtain ⟨h1, h2⟩ := wf32 (hw _ hm)
    exact rS_ix zs i h h1 h2
  have lt := rS_lt zs
  have ad := rS_ad zs
  generalize rS zs = r at hr lt ad
  letI := rhoE r lt ad
  have R0 : Rel w Rho.gphi Rho.g0 w := rel_start (GB.plain (r := r) (lt := lt) (h0 := rfl) (ad := ad) w)
  have ro : ∀ b k, HP.get Rho.g0 b = some k → k.wr = false := fun b k hk => by obtain ⟨vs, rfl⟩ := Rho.gro b k hk; rfl
  rcases Nat.eq_zero_or_pos len with rfl | hpos
  · have R1 : Rel w Rho.gphi (h0E []) w := by
      refine ⟨rfl, rfl, rfl, Nat.le_refl _, fun _ _ => rfl, R0.gb, fun b hb => ?_, fun b l h => absurd (show (none : Option Ev.Loc) = some l from h) (by simp), fun b l k h => absurd (show (none : Option Ev.Loc) = some l from h) (by simp), fun b b' l l' k k' h => absurd (show (none : Option Ev.Loc) = some l from h) (by simp)⟩
      have hb : (HP.new Rho.g0 (.cells false [])).nx.toNat ≤ b.toNat := hb
      show (HP.new Rho.g0 (.cells false [])).get b = none
      rw [HP.nx_new, Pos.toNat_succ] at hb
      rw [HP.get_new, if_neg (by intro e; subst e; omega)]; exact R0.wf b (by omega)
    exact walk_at r lt ad (okT r lt ad) (vs := [.slice (some a) 0 cap]) (xs := [.slice .h 0 0 .unk]) R1 (.cons _ _ _ _ (.slice0 a .h 0 cap) .nil) (allE 0 (by omega))
  · obtain ⟨b, o, sp⟩ := a
    obtain rfl : sp = none := cell_spot (hcell 0 (by omega))
    have hsl : ∀ {φ : Phi}, φ .h = some ⟨b, o, 0⟩ → RV φ (.slice (some ⟨b, o, none⟩) len cap) (.slice .h 0 len .unk) := fun h => .slice .h 0 len cap .unk ⟨b, o, 0⟩ h hl (fun k e => by cases e) (fun z e => by cases e)
    rcases Nat.lt_or_ge 100 len with hbig | hsm
    · have R1 := (Rel.row R0 ro (l := ⟨b, o, 0⟩) (cs := []) (vs := []) (hb hpos) .nil (fun i v hv => by simp at hv)).1
      obtain ⟨j, rfl⟩ : ∃ j, len = j + 101 := ⟨len - 101, by omega⟩
      exact walk_at r lt ad (okT r lt ad) (vs := [.slice (some ⟨b, o, none⟩) (j + 101) cap]) (xs := [.slice .h 0 (j + 101) .unk]) R1 (.cons _ _ _ _ (hsl (if_pos rfl)) .nil) (big j)
    · have R1 := (Rel.row R0 ro (l := ⟨b, o, 0⟩) (cs := (List.range' 0 len).map fun i => Value.int .u32 (Int.ofNat (r (ix i)))) (vs := toksE len 0) (hb hpos) (rvs_toks r lt ad len 0) (fun i v hv => by
        rw [List.getElem?_map] at hv
        rcases Nat.lt_or_ge i len with hi | hi
        · rw [List.getElem?_range' hi] at hv
          obtain rfl : Value.int .u32 (Int.ofNat (r (ix i))) = v := by simpa using hv
          have hc := hcell i (by omega)
          rw [hr i (by omega) (by omega)] at hc
          have ha : (⟨b, o, none⟩ : Addr).add i = ⟨b, o + i, none⟩ := by simp [Addr.add]
          rw [ha] at hc
          exact hc
        · rw [List.getElem?_eq_none (by simpa using hi)] at hv; simp at hv)).1
      exact walk_at r lt ad (okT r lt ad) (vs := [.slice (some ⟨b, o, none⟩) len cap]) (xs := [.slice .h 0 len .unk]) R1 (.cons _ _ _ _ (hsl (if_pos rfl)) .nil) (allE len hsm)

set_option maxRecDepth 100000 in
theorem lifted (os : Os) (started : os.Started) (H : Type) (enc : TypeId × Value → H) :
    ReturnsInHanded {} Tryz.checked os 5 .any (Rows.semSumsSpec.pre6 enc Tryz.prog Tryz.f5 Rows.semSumsRow.domain false) (Rows.semSumsSpec.post enc Tryz.prog Tryz.f5 false true false false) := by
  refine returnsInHanded_of_change (C := Tryz.checked) own started (by kernel_rfl) Tryz.func5
    (ChangeSpec.witness6 (enc := enc) (C := Tryz.checked) false ⟨#[], #[.slice none 0 0], []⟩ 8 (by kernel_rfl) (by kernel_rfl) (by kernel_rfl) (by kernel_rfl)) ?_
  intro W base args ds gs before hval0 hW hcnd _
  have hval : ∀ (j : Nat) t v, Tryz.f5.params[j]? = some t → args[j]? = some v → Value.okWide Tryz.prog W .any base t v := hval0
  have hW' := hW
  obtain ⟨p, q, hA0, hV, rfl, hfz, hnd⟩ := hW
  have hA : DataW.TrodAll enc Tryz.prog W 0 (fun _ => true) true Tryz.f5.params.toList args.toList ds p := hA0
  rw [Tryz.params5] at hA hval
  obtain ⟨v0, vs0, d0, ds0, p0, q0, hargs, rfl, rfl, h0, r0⟩ := trodAll_cons hA
  obtain ⟨rfl, rfl, rfl⟩ := trodAll_nil r0
  obtain rfl : args = #[v0] := by cases args; simp_all
  obtain ⟨rfl, rfl⟩ := trodVars_none hV
  obtain ⟨a0, len, cap, rfl⟩ := okWide_slice Tryz.underlying23 (hval 0 23 v0 rfl rfl)
  clear hA0 hval0
  have h0k := h0
  obtain ⟨fuel, hf⟩ := h0
  simp only [List.append_nil] at hW'
  have hlt : ∀ x ∈ p0, x.block < W.heap.size := fun x hx => hW'.lt x (by simpa using hx)
  have key : Calls Tryz.prog 5 #[.slice a0 len cap] W fun e w' => e = .returned (.bool true) ∧ GrownO W w' ∧ Below W.heap.size W w' := by
    rcases open_ints Tryz.underlying23 Tryz.underlying32 cells32 hf with ⟨hcs, hx⟩ | ⟨a, len', cap', zs, hcs, _, hl, hm, hz, hx, hcell, hwz⟩
    · simp [Value.cells] at hcs
      obtain ⟨rfl, rfl, rfl⟩ := hcs
      exact walk_nil W
    · simp [Value.cells] at hcs
      obtain ⟨rfl, rfl, rfl⟩ := hcs
      simp only [Prod.mk.injEq] at hx
      obtain ⟨rfl, rfl⟩ := hx
      simp only [if_true] at hz
      refine walk_row a len cap zs hl hz (fun hpos => ?_) hcell hwz
      obtain ⟨b, off, spot⟩ := a
      exact hlt (.cell b off) (MemPlace.mem_row.2 ⟨0, by omega, by simp⟩)
  refine key.mono fun e W' ⟨he, hg, hbl⟩ => ?_
  subst he
  letI : Rho := rhoE (rS []) (rS_lt []) (rS_ad [])
  exact ⟨_, rfl, post_of_old (pa := p0) (pv := []) hW' (fun _ _ _ => (trodAll_cons_mk (shut_bool Tryz.underlying4 _) trodAll_mk0))
    (fun sp hsp => by
      have hs := WideElems.Trod_stays (sp' := sp) laidOut (by kernel_rfl) (of_decide_eq_true (by kernel_rfl)) h0k (fun x hx => hbl.same (hlt x hx)) (fun x hx => hsp x (by simpa using hx))
      have := trodAll_cons_mk hs trodAll_mk0
      rw [List.append_nil] at this
      exact this) (fun _ _ => rfl) (by simp)
    hg (ok_one (by kernel_rfl) rfl (okWide_bool_mk Tryz.underlying4 _))⟩

theorem over : Rows.semSumsRow.holds Tryz.pinned (OpenSpec.ofChange Rows.semSumsSpec) :=
  OpenClaim.holds_of_wide 5 Tryz.f5 rfl rfl rfl rfl rfl rfl rfl ⟨rfl, rfl, rfl, rfl, rfl⟩ rfl rfl rfl rfl rfl (by kernel_rfl) Tryz.func5 (by kernel_rfl)
    (of_decide_eq_true (by kernel_rfl)) (by unfold Func.isWrapper; first | (rw [if_pos (by decide +kernel)]; kernel_rfl) | (rw [if_neg (by decide +kernel)]; exact ⟨rfl, rfl⟩))
    (fun os started H enc _ => lifted os started H enc)

/-- THE STATEMENT. -/
theorem proved : Rows.SemSumsSaid :=
  over
#print axioms proved
end Go.Proofs.YtblciblkocameaaGreat.semSums
