/- LowerReals: the document's reals as functions that always answer, at words of which nothing is known. -/
import Derived.Test.YtcoldhmbmcdemaaGreatL9
import Derived.Test.YtcoldhmbmcdemaaGreatPt
set_option linter.unusedVariables false
set_option linter.unusedSimpArgs false
namespace Go.Proofs.YtcoldhmbmcdemaaGreat.Sx
open Go Go.Proofs.YtcoldhmbmcdemaaGreat.Ev
open Go.Proofs.YtcoldhmbmcdemaaGreat.Lg
noncomputable section
abbrev g00 : HP := ⟨.h, .leaf⟩
theorem wf00 : Wf g00 := fun b _ => by cases b <;> rfl
theorem oi_ex (a : Nat) : ∃ k : Nat, a ≤ 4294967295 → k < 2 ^ 64 ∧ ∃ h', SF tabS (30000 + 6) 15 [vW (Int.ofNat a)] g00 .no = some (.ret (uv k) h', .no) := by
  by_cases h : a ≤ 4294967295
  · obtain ⟨k, hk, h', e, _⟩ := sf_OfInt wf00 h 30000 (by omega)
    exact ⟨k, fun _ => ⟨hk, h', e⟩⟩
  · exact ⟨0, fun c => absurd c h⟩
def oiK (a : Nat) : Nat := Classical.choose (oi_ex a)
theorem oi_sp {a : Nat} (h : a ≤ 4294967295) : oiK a < 2 ^ 64 ∧ ∃ h', SF tabS (30000 + 6) 15 [vW (Int.ofNat a)] g00 .no = some (.ret (uv (oiK a)) h', .no) := Classical.choose_spec (oi_ex a) h
theorem do_ex (op a b : Nat) : ∃ k : Nat, 45 ≤ op → op ≤ 48 → a < 2 ^ 64 → b < 2 ^ 64 → k < 2 ^ 64 ∧ ∃ h', SF tabS (30000 + 8) 14 [iv op, uv a, uv b] g00 .no = some (.ret (.tup [uv k, vB true]) h', .no) := by
  by_cases h : 45 ≤ op ∧ op ≤ 48 ∧ a < 2 ^ 64 ∧ b < 2 ^ 64
  · obtain ⟨k, hk, h', e, _⟩ := sf_Do wf00 h.1 h.2.1 h.2.2.1 h.2.2.2 30000 (by omega)
    exact ⟨k, fun _ _ _ _ => ⟨hk, h', e⟩⟩
  · exact ⟨0, fun c1 c2 c3 c4 => absurd ⟨c1, c2, c3, c4⟩ h⟩
def doK (op a b : Nat) : Nat := Classical.choose (do_ex op a b)
theorem do_sp {op a b : Nat} (h1 : 45 ≤ op) (h2 : op ≤ 48) (ha : a < 2 ^ 64) (hb : b < 2 ^ 64) : doK op a b < 2 ^ 64 ∧ ∃ h', SF tabS (30000 + 8) 14 [iv op, uv a, uv b] g00 .no = some (.ret (.tup [uv (doK op a b), vB true]) h', .no) := Classical.choose_spec (do_ex op a b) h1 h2 ha hb
theorem to_ex (a : Nat) : ∃ k : Nat, k ≤ 4294967295 ∧ (a < 2 ^ 64 → SF tabS (30000 + 3) 17 [uv a] g00 .no = some (.ret (vW (Int.ofNat k)) g00, .no)) := by
  by_cases h : a < 2 ^ 64
  · obtain ⟨k, hk, e⟩ := sf_ToInt h 30000 (by omega) g00
    exact ⟨k, hk, fun _ => e⟩
  · exact ⟨0, by omega, fun c => absurd c h⟩
def toK (a : Nat) : Nat := Classical.choose (to_ex a)
theorem to_sp (a : Nat) : toK a ≤ 4294967295 ∧ (a < 2 ^ 64 → SF tabS (30000 + 3) 17 [uv a] g00 .no = some (.ret (vW (Int.ofNat (toK a))) g00, .no)) := Classical.choose_spec (to_ex a)
def oiT (xs : List AV) : Option AV := match xs with | [.int .u32 (.negSucc i)] => bif Nat.ble i 1 then some (.int .u64 (.negSucc i)) else none | _ => none
def doT (c : Nat) (xs : List AV) : Option AV := match xs with | [.int .i64 (.ofNat op), .int .u64 (.negSucc i), .int .u64 (.negSucc j)] => bif Nat.beq op (Nat.add 45 c) && (Nat.beq i 0 && Nat.beq j 1) then some (.tup [.int .u64 (.negSucc 2), .bool true]) else none | _ => none
def ngT (xs : List AV) : Option AV := match xs with | [.int .u64 (.negSucc i)] => bif Nat.beq i 0 then some (.int .u64 (.negSucc 3)) else none | _ => none
def toT (xs : List AV) : Option AV := match xs with | [.int .u64 (.negSucc i)] => bif Nat.beq i 2 then some (.int .u32 (.negSucc 2)) else none | _ => none
def tabR (c : Nat) : ST := .node 13 tabS (.node 14 (.pr 14 (noH (doT c))) (.node 15 (.pr 15 (noH oiT)) (.node 16 (.pr 16 (noH ngT)) (.node 17 (.pr 17 (noH toT)) tabS))))
def rR (c a b i : Nat) : Nat := if i = 0 then a else if i = 1 then b else toK (doK (45 + c) (oiK a) (oiK b))
def qR (c a b i : Nat) : Nat := if i = 0 then oiK a else if i = 1 then oiK b else if i = 2 then doK (45 + c) (oiK a) (oiK b) else ngN (oiK a)
theorem rR_lt (c a b : Nat) (ha : a ≤ 4294967295) (hb : b ≤ 4294967295) (i : Nat) : rR c a b i ≤ 4294967295 := by
  unfold rR
  split
  · exact ha
  · split
    · exact hb
    · exact (to_sp _).1
abbrev rhoR (c a b : Nat) (ha : a ≤ 4294967295) (hb : b ≤ 4294967295) : Rho := { Rho.plain (rR c a b) (rR_lt c a b ha hb) rfl with q := qR c a b }
theorem bif_s {α : Type} {c : Bool} {x y : α} (h : (bif c then some x else none) = some y) : c = true ∧ x = y := by
  cases c with
  | false => simp at h
  | true => exact ⟨rfl, Option.some.inj h⟩
theorem okR (c a b : Nat) (hc : c < 4) (ha : a ≤ 4294967295) (hb : b ≤ 4294967295) : letI := rhoR c a b ha hb; ST.Ok Tryz.prog (tabR c) := by
  letI := rhoR c a b ha hb
  have h64 : t64 = true := rfl
  have la := (oi_sp ha).1
  have lb := (oi_sp hb).1
  obtain ⟨ld, hd, ed⟩ := do_sp (op := 45 + c) (by omega) (by omega) la lb
  have p15 : ∀ w0, PrOk Tryz.prog w0 15 (noH oiT) := fun w0 => pr_rett (n := 30000 + 6) (by kernel_rfl) okS ⟨_, Tryz.func15, by kernel_rfl, by decide +kernel⟩ (fun xs v hv => by
    unfold oiT at hv
    split at hv
    · rename_i i
      obtain ⟨hi, rfl⟩ := bif_s hv
      have hi := Nat.le_of_ble_eq_true hi
      refine ⟨fun x hx => ⟨_, _, by simpa using hx⟩, ?_⟩
      rcases (show i = 0 ∨ i = 1 by omega) with rfl | rfl
      · obtain ⟨_, h', e⟩ := oi_sp ha
        exact ⟨uv (oiK a), h', e, fun φ ψ x hx => RV.toT64 (φ := ψ) h64 hx.word rfl⟩
      · obtain ⟨_, h', e⟩ := oi_sp hb
        exact ⟨uv (oiK b), h', e, fun φ ψ x hx => RV.toT64 (φ := ψ) h64 hx.word rfl⟩
    · simp at hv) w0
  have p14 : ∀ w0, PrOk Tryz.prog w0 14 (noH (doT c)) := fun w0 => pr_rett (n := 30000 + 8) (by kernel_rfl) okS ⟨_, Tryz.func14, by kernel_rfl, by decide +kernel⟩ (fun xs v hv => by
    unfold doT at hv
    split at hv
    · rename_i op i j
      obtain ⟨hi, rfl⟩ := bif_s hv
      rw [Bool.and_eq_true, Bool.and_eq_true] at hi
      obtain rfl : op = 45 + c := Nat.eq_of_beq_eq_true hi.1
      obtain rfl := Nat.eq_of_beq_eq_true hi.2.1
      obtain rfl := Nat.eq_of_beq_eq_true hi.2.2
      refine ⟨fun x hx => ?_, .tup [uv (doK (45 + c) (oiK a) (oiK b)), vB true], hd, ed, fun φ ψ x hx => ?_⟩
      · simp at hx
        rcases hx with rfl | rfl | rfl <;> exact ⟨_, _, rfl⟩
      · cases hx with
        | tup vs _ hs =>
          obtain ⟨l⟩ := vs
          cases hs with
          | cons v1 _ vs1 _ h1 hs1 =>
            cases hs1 with
            | cons v2 _ vs2 _ h2 hs2 =>
              cases hs2
              cases h2
              exact .tup _ _ (.cons _ _ _ _ (RV.toT64 (φ := ψ) h64 h1.word rfl) (.cons _ _ _ _ (.bool _) .nil))
    · simp at hv) w0
  have p16 : ∀ w0, PrOk Tryz.prog w0 16 (noH ngT) := fun w0 => pr_rett (n := 30000 + 3) (by kernel_rfl) okS ⟨_, Tryz.func16, by kernel_rfl, by decide +kernel⟩ (fun xs v hv => by
    unfold ngT at hv
    split at hv
    · rename_i i
      obtain ⟨hi, rfl⟩ := bif_s hv
      obtain rfl := Nat.eq_of_beq_eq_true hi
      exact ⟨fun x hx => ⟨_, _, by simpa using hx⟩, uv (ngN (oiK a)), g00, sf_neg' la 30000 g00, fun φ ψ x hx => RV.toT64 (φ := ψ) h64 hx.word rfl⟩
    · simp at hv) w0
  have p17 : ∀ w0, PrOk Tryz.prog w0 17 (noH toT) := fun w0 => pr_rett (n := 30000 + 3) (by kernel_rfl) okS ⟨_, Tryz.func17, by kernel_rfl, by decide +kernel⟩ (fun xs v hv => by
    unfold toT at hv
    split at hv
    · rename_i i
      obtain ⟨hi, rfl⟩ := bif_s hv
      obtain rfl := Nat.eq_of_beq_eq_true hi
      exact ⟨fun x hx => ⟨_, _, by simpa using hx⟩, vW (Int.ofNat (toK (doK (45 + c) (oiK a) (oiK b)))), g00, (to_sp _).2 ld, fun φ ψ x hx => RV.toT (φ := ψ) hx.word rfl⟩
    · simp at hv) w0
  exact .node _ _ _ okS (.node _ _ _ (.pr _ _ p14) (.node _ _ _ (.pr _ _ p15) (.node _ _ _ (.pr _ _ p16) (.node _ _ _ (.pr _ _ p17) okS))))
def oR (c : Nat) : Bool := isTrue (S6_3 (SF (tabR c) 999) 999 (Int.ofNat c) (.negSucc 0) (.negSucc 1) g00)
theorem tmod4 (n : Nat) : Int.tmod (Int.ofNat n) (Int.ofNat 4) = Int.ofNat (n % 4) := rfl
theorem modR (D : CallD) (m x : Nat) (a b : Int) (h : HP) : S6_3 D m (.ofNat (x % 4)) a b h = S6_3 D m (.ofNat x) a b h := by
  unfold S6_3; simp only [tmod4, Nat.mod_mod]
theorem enterR (c : Nat) (x a b : Int) : SF (tabR c) 1000 6 [.int .u8 x, .int .u32 a, .int .u32 b] g00 .no = S6_3 (SF (tabR c) 999) 999 x a b g00 := by kernel_rfl
end
end Go.Proofs.YtcoldhmbmcdemaaGreat.Sx
