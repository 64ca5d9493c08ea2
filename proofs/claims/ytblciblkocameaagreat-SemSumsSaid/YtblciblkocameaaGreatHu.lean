/- SemSums: the two programs, parsed, and awake as functions with known answers; a run on a row of tokens that add. -/
import Derived.Test.YtblciblkocameaaGreatSt
set_option linter.unusedVariables false
set_option linter.unusedSimpArgs false
set_option linter.unusedSectionVars false
namespace Go.Proofs.YtblciblkocameaaGreat.Sx
open Go Go.Proofs.YtblciblkocameaaGreat.Ev
noncomputable section
abbrev AdE (r : Nat → Nat) : Prop := tadd = true → ∀ a b, Nat.mod a 128 = Nat.div b 128 → (r a + r b) % 4294967296 = r (Nat.add (Nat.mul (Nat.div a 128) 128) (Nat.mod b 128))
abbrev rhoE (r : Nat → Nat) (lt : ∀ i, r i ≤ 4294967295) (ad : AdE r) : Rho := Rho.plain r lt rfl ad
theorem awake_ran : gc [] (SF tabS 900 13 [] ⟨.h, .leaf⟩ .no) = some (.bool true, []) := by kernel_rfl
def tabY : ST := .node 12 tabS (.node 13 (.pr 13 yesM.at) tabS)
theorem okY (r : Nat → Nat) (lt : ∀ i, r i ≤ 4294967295) (ad : AdE r) : @ST.Ok (rhoE r lt ad) Tryz.prog tabY := by
  letI := rhoE r lt ad
  exact .node _ _ _ okS (.node _ _ _ (.pr _ _ fun w0 => pr_yes (n := 900) (by kernel_rfl) okS ⟨_, Tryz.func13, by kernel_rfl, by decide +kernel⟩ awake_ran w0) okS)
def eA : Memo := ⟨[.row 1 1 [(.str [105, 110, 116, 32, 109, 97, 105, 110, 40, 41, 32, 123, 32, 105, 110, 116, 32, 110, 32, 61, 32, 103, 101, 116, 119, 40, 41, 59, 32, 105, 110, 116, 32, 115, 59, 32, 119, 104, 105, 108, 101, 32, 40, 110, 32, 62, 32, 48, 41, 32, 123, 32, 115, 32, 61, 32, 115, 32, 43, 32, 103, 101, 116, 119, 40, 41, 59, 32, 110, 32, 61, 32, 110, 32, 45, 32, 49, 59, 32, 125, 32, 114, 101, 116, 117, 114, 110, 32, 115, 59, 32, 125])]], (.tup [(.agg [(.slice .h 0 1 (.spare 17))]), (.bool true)]), [.cells true [(.bool true), (.bool false), (.bool false), (.str [109, 97, 105, 110]), (kI 1), (kI 0), .nils, (.bool true), .nils, (kI 1), .nils, (.slice (.o .h) 0 4 (.spare 7)), (.str []), (kI 0), (kI 0), (kI 11), (kI 0)], .cells true [(kI 8), (.slice (.i .h) 0 1 (.spare 8)), .nils, (.str [36, 48]), (kI 1), (kI 0), (kI 13), (kI 8), .nils, .nils, (.str [36, 49]), (kI 1), (kI 0), (kI 29), (kI 3), (.slice (.o (.o .h)) 0 1 (.spare 8)), (.slice (.i (.o .h)) 0 1 (.spare 7)), (.str []), (kI 0), (kI 0), (kI 36), (kI 4), (.slice (.o (.i .h)) 0 1 (.spare 8)), .nils, (.str []), (kI 0), (kI 0), (kI 81)], .cells true [(kI 7), (.str []), (.str [103, 101, 116, 119]), (vW (.ofNat 0)), (.int .u64 (.ofNat 0)), .nils, (kI 1), (kI 21)], .cells true [(kI 5), (.str [62]), (.str []), (vW (.ofNat 0)), (.int .u64 (.ofNat 0)), (.slice (.i (.i .h)) 0 2 (.spare 8)), (kI 1), (kI 43)], .cells true [(kI 1), .nils, (.slice (.o (.o (.o .h))) 0 2 (.spare 7)), (.str []), (kI 0), (kI 0), (kI 50)], .cells true [(kI 3), (.str []), (.str [36, 49]), (vW (.ofNat 0)), (.int .u64 (.ofNat 0)), .nils, (kI 1), (kI 88)], .cells true [(kI 3), (.str []), (.str [36, 48]), (vW (.ofNat 0)), (.int .u64 (.ofNat 0)), .nils, (kI 1), (kI 43), (kI 1), (.str []), (.str []), (vW (.ofNat 0)), (.int .u64 (.ofNat 0)), .nils, (kI 1), (kI 47)], .cells true [(kI 7), (.slice (.i (.o (.o .h))) 0 1 (.spare 8)), .nils, (.str []), (kI 0), (kI 0), (kI 52), (kI 7), (.slice (.o (.i (.o .h))) 0 1 (.spare 8)), .nils, (.str []), (kI 0), (kI 0), (kI 68)], .cells true [(kI 6), (.str []), (.str []), (vW (.ofNat 0)), (.int .u64 (.ofNat 0)), (.slice (.i (.i (.o .h))) 0 2 (.spare 8)), (kI 1), (kI 52)], .cells true [(kI 6), (.str []), (.str []), (vW (.ofNat 0)), (.int .u64 (.ofNat 0)), (.slice (.o (.o (.i .h))) 0 2 (.spare 8)), (kI 1), (kI 68)], .cells true [(kI 3), (.str []), (.str [36, 49]), (vW (.ofNat 0)), (.int .u64 (.ofNat 0)), .nils, (kI 1), (kI 52), (kI 5), (.str [43]), (.str []), (vW (.ofNat 0)), (.int .u64 (.ofNat 0)), (.slice (.i (.o (.i .h))) 0 2 (.spare 8)), (kI 1), (kI 56)], .cells true [(kI 3), (.str []), (.str [36, 48]), (vW (.ofNat 0)), (.int .u64 (.ofNat 0)), .nils, (kI 1), (kI 68), (kI 5), (.str [45]), (.str []), (vW (.ofNat 0)), (.int .u64 (.ofNat 0)), (.slice (.o (.i (.i .h))) 0 2 (.spare 8)), (kI 1), (kI 72)], .cells true [(kI 3), (.str []), (.str [36, 49]), (vW (.ofNat 0)), (.int .u64 (.ofNat 0)), .nils, (kI 1), (kI 56), (kI 7), (.str []), (.str [103, 101, 116, 119]), (vW (.ofNat 0)), (.int .u64 (.ofNat 0)), .nils, (kI 1), (kI 60)], .cells true [(kI 3), (.str []), (.str [36, 48]), (vW (.ofNat 0)), (.int .u64 (.ofNat 0)), .nils, (kI 1), (kI 72), (kI 1), (.str []), (.str []), (vW (.ofNat 1)), (.int .u64 (.ofNat 0)), .nils, (kI 1), (kI 76)]]⟩
def kA : List Pos := [(.i (.o (.o (.o (.o (.o (.o (.i (.i (.o (.o .h))))))))))), (.i (.i (.o (.i (.i (.i (.i (.o (.i (.o (.o .h))))))))))), (.o (.o (.i (.o (.i (.o (.o (.o (.i (.o (.o .h))))))))))), (.i (.o (.i (.i (.o (.i (.o (.o (.i (.o (.o .h))))))))))), (.i (.i (.i (.i (.o (.i (.i (.o (.i (.o (.o .h))))))))))), (.o (.o (.o (.i (.i (.i (.i (.o (.i (.o (.o .h))))))))))), (.o (.i (.o (.i (.o (.i (.o (.o (.i (.o (.o .h))))))))))), (.i (.o (.i (.i (.o (.i (.i (.o (.i (.o (.o .h))))))))))), (.o (.o (.i (.i (.o (.o (.i (.o (.i (.o (.o .h))))))))))), (.o (.i (.o (.i (.o (.i (.i (.o (.i (.o (.o .h))))))))))), (.i (.o (.o (.i (.o (.o (.i (.o (.i (.o (.o .h))))))))))), (.i (.i (.i (.o (.o (.i (.i (.o (.i (.o (.o .h))))))))))), (.o (.i (.i (.o (.o (.o (.i (.o (.i (.o (.o .h))))))))))), (.o (.o (.i (.o (.o (.i (.i (.o (.i (.o (.o .h)))))))))))]
theorem ranA (r : Nat → Nat) (lt : ∀ i, r i ≤ 4294967295) (ad : AdE r) : @Memo.Ran (rhoE r lt ad) tabY 900 12 eA := ⟨by kernel_rfl, kA, by kernel_rfl, by kernel_rfl⟩
def eB : Memo := ⟨[.row 1 1 [(.str [105, 110, 116, 32, 115, 117, 109, 40, 105, 110, 116, 32, 110, 41, 32, 123, 32, 105, 102, 32, 40, 110, 32, 61, 61, 32, 48, 41, 32, 114, 101, 116, 117, 114, 110, 32, 48, 59, 32, 114, 101, 116, 117, 114, 110, 32, 103, 101, 116, 119, 40, 41, 32, 43, 32, 115, 117, 109, 40, 110, 32, 45, 32, 49, 41, 59, 32, 125, 32, 105, 110, 116, 32, 109, 97, 105, 110, 40, 41, 32, 123, 32, 114, 101, 116, 117, 114, 110, 32, 115, 117, 109, 40, 103, 101, 116, 119, 40, 41, 41, 59, 32, 125])]], (.tup [(.agg [(.slice .h 0 2 (.spare 17))]), (.bool true)]), [.cells true [(.bool true), (.bool false), (.bool false), (.str [115, 117, 109]), (kI 1), (kI 0), .nils, (.bool true), (.slice (.o .h) 0 1 (.spare 3)), (kI 1), .nils, (.slice (.i .h) 0 2 (.spare 7)), (.str []), (kI 0), (kI 0), (kI 15), (kI 0), (.bool true), (.bool false), (.bool false), (.str [109, 97, 105, 110]), (kI 1), (kI 0), .nils, (.bool true), .nils, (kI 1), .nils, (.slice (.o (.o .h)) 0 1 (.spare 7)), (.str []), (kI 0), (kI 0), (kI 80), (kI 69)], .cells true [(.str [36, 48]), (kI 1), (kI 8)], .cells true [(kI 2), (.slice (.i (.o .h)) 0 1 (.spare 8)), (.slice (.o (.i .h)) 0 1 (.spare 7)), (.str []), (kI 0), (kI 0), (kI 17), (kI 4), (.slice (.i (.i .h)) 0 1 (.spare 8)), .nils, (.str []), (kI 0), (kI 0), (kI 39)], .cells true [(kI 4), (.slice (.o (.o (.o .h))) 0 1 (.spare 8)), .nils, (.str []), (kI 0), (kI 0), (kI 82)], .cells true [(kI 5), (.str [61, 61]), (.str []), (vW (.ofNat 0)), (.int .u64 (.ofNat 0)), (.slice (.i (.o (.o .h))) 0 2 (.spare 8)), (kI 1), (kI 21)], .cells true [(kI 4), (.slice (.o (.i (.o .h))) 0 1 (.spare 8)), .nils, (.str []), (kI 0), (kI 0), (kI 29)], .cells true [(kI 5), (.str [43]), (.str []), (vW (.ofNat 0)), (.int .u64 (.ofNat 0)), (.slice (.i (.i (.o .h))) 0 2 (.spare 8)), (kI 1), (kI 46)], .cells true [(kI 7), (.str []), (.str [115, 117, 109]), (vW (.ofNat 0)), (.int .u64 (.ofNat 0)), (.slice (.o (.o (.i .h))) 0 1 (.spare 8)), (kI 1), (kI 89)], .cells true [(kI 3), (.str []), (.str [36, 48]), (vW (.ofNat 0)), (.int .u64 (.ofNat 0)), .nils, (kI 1), (kI 21), (kI 1), (.str []), (.str []), (vW (.ofNat 0)), (.int .u64 (.ofNat 0)), .nils, (kI 1), (kI 26)], .cells true [(kI 1), (.str []), (.str []), (vW (.ofNat 0)), (.int .u64 (.ofNat 0)), .nils, (kI 1), (kI 36)], .cells true [(kI 7), (.str []), (.str [103, 101, 116, 119]), (vW (.ofNat 0)), (.int .u64 (.ofNat 0)), .nils, (kI 1), (kI 46), (kI 7), (.str []), (.str [115, 117, 109]), (vW (.ofNat 0)), (.int .u64 (.ofNat 0)), (.slice (.i (.o (.i .h))) 0 1 (.spare 8)), (kI 1), (kI 55)], .cells true [(kI 7), (.str []), (.str [103, 101, 116, 119]), (vW (.ofNat 0)), (.int .u64 (.ofNat 0)), .nils, (kI 1), (kI 93)], .cells true [(kI 5), (.str [45]), (.str []), (vW (.ofNat 0)), (.int .u64 (.ofNat 0)), (.slice (.o (.i (.i .h))) 0 2 (.spare 8)), (kI 1), (kI 59)], .cells true [(kI 3), (.str []), (.str [36, 48]), (vW (.ofNat 0)), (.int .u64 (.ofNat 0)), .nils, (kI 1), (kI 59), (kI 1), (.str []), (.str []), (vW (.ofNat 1)), (.int .u64 (.ofNat 0)), .nils, (kI 1), (kI 63)]]⟩
def kB : List Pos := [(.o (.i (.i (.i (.i (.i (.i (.i (.o (.o (.o .h))))))))))), (.i (.i (.i (.o (.i (.o (.i (.o (.i (.i .h)))))))))), (.i (.o (.o (.i (.i (.o (.i (.i (.o (.o (.o .h))))))))))), (.o (.o (.o (.i (.i (.i (.i (.i (.o (.o (.o .h))))))))))), (.i (.i (.i (.o (.o (.i (.o (.i (.o (.o (.o .h))))))))))), (.o (.i (.o (.o (.i (.i (.o (.i (.o (.o (.o .h))))))))))), (.o (.i (.i (.o (.i (.o (.i (.i (.o (.o (.o .h))))))))))), (.i (.o (.i (.o (.i (.i (.i (.i (.o (.o (.o .h))))))))))), (.o (.o (.i (.o (.o (.i (.o (.i (.o (.o (.o .h))))))))))), (.i (.i (.i (.i (.o (.i (.o (.i (.o (.o (.o .h))))))))))), (.i (.i (.o (.o (.i (.o (.i (.i (.o (.o (.o .h))))))))))), (.o (.o (.o (.o (.i (.i (.i (.i (.o (.o (.o .h))))))))))), (.o (.i (.i (.i (.o (.o (.i (.i (.o (.o (.o .h))))))))))), (.i (.i (.o (.i (.o (.o (.i (.i (.o (.o (.o .h)))))))))))]
theorem ranB (r : Nat → Nat) (lt : ∀ i, r i ≤ 4294967295) (ad : AdE r) : @Memo.Ran (rhoE r lt ad) tabY 900 12 eB := ⟨by kernel_rfl, kB, by kernel_rfl, by kernel_rfl⟩
/-- word.Do: the sum of two words of which the sum is known; else as it runs. -/
def resP (r : Res2) : Option (AV × HP) := match r with | some (.ret v h, .no) => some (v, h) | _ => none
theorem resP_ok {r : Res2} {x : AV × HP} (h : resP r = some x) : r = some (.ret x.1 x.2, .no) := by
  unfold resP at h
  split at h
  · obtain rfl := Option.some.inj h; rfl
  · simp at h
def adT (op : Nat) (x y : Int) : Option AV := Bool.rec none (addT x y) (Nat.beq op 1)
def sdP (xs : List AV) (h : HP) : Option (AV × HP) :=
  match xs with
  | [.int .i64 (.ofNat op), .int .u32 (.negSucc i), .int .u32 y] => Option.rec none (fun c => some (.tup [c, vI (Int.ofNat 0)], h)) (adT op (.negSucc i) y)
  | [.int .i64 (.ofNat op), .int .u32 (.ofNat n), .int .u32 (.negSucc j)] => Option.rec none (fun c => some (.tup [c, vI (Int.ofNat 0)], h)) (adT op (.ofNat n) (.negSucc j))
  | [.int .i64 (.ofNat op), .int .u32 (.ofNat n), .int .u32 (.ofNat m)] => resP (SF tabS 60 179 [.int .i64 (.ofNat op), .int .u32 (.ofNat n), .int .u32 (.ofNat m)] h .no)
  | _ => none
theorem do_add (n m : Nat) (h : HP) : SF tabS 60 179 [.int .i64 (.ofNat 1), .int .u32 (.ofNat n), .int .u32 (.ofNat m)] h .no = some (.ret (.tup [vW (wrapF .u32 (addF (Int.ofNat n) (Int.ofNat m))), vI (Int.ofNat 0)]) h, .no) := by kernel_rfl
def tabD : ST := .node 178 tabY (.node 179 (.pr 179 sdP) tabY)
section
variable [Rho]
theorem tup_tok {φ : Phi} {x : Value} {n i : Nat} {c : AV} (hn : n = Rho.r i) (h : RV φ x (.tup [vW (Int.ofNat n), c])) : RV φ x (.tup [vW (.negSucc i), c]) := by
  cases h with
  | tup vs _ h =>
    refine .tup vs _ ?_
    cases h' : vs.toList with
    | nil => rw [h'] at h; cases h
    | cons v l =>
      rw [h'] at h
      cases h with
      | cons _ _ _ _ h1 h2 => exact .cons _ _ _ _ (h1.toT hn) h2
/-- A sum of words, at their numbers. -/
theorem add_run (hY : ST.Ok Tryz.prog tabS) {w0 w : World} {φ : Phi} {h : HP} (r : Rel w0 φ h w) {vs : List Value} {n m i : Nat} (hv : RVs φ vs [.int .i64 (.ofNat 1), .int .u32 (.ofNat n), .int .u32 (.ofNat m)]) (e : (n + m) % 4294967296 = Rho.r i) :
    Calls Tryz.prog 179 vs.toArray w (FinR w0 φ h w (.ret (.tup [.int .u32 (.negSucc i), vI (Int.ofNat 0)]) h)) := by
  refine Calls.mono (calls_ok (by kernel_rfl) (ST.xok w0 hY) (ST.tab_ok hY) (SF_ok hY 60 _ _ _ _ _ (do_add n m h)) r hv) fun e' w' hR => ?_
  cases e' with
  | returned x =>
    obtain ⟨φ', a, h', hf, hr, q, ext⟩ := hR
    simp only [Fin.ret.injEq] at hf
    obtain ⟨rfl, rfl⟩ := hf
    refine ⟨φ', _, h, rfl, tup_tok (n := (n + m) % 4294967296) e ?_, q, ext⟩
    have e2 : wrapF .u32 (addF (Int.ofNat n) (Int.ofNat m)) = Int.ofNat ((n + m) % 4294967296) := by
      rw [wrapF_eq]
      show IntKind.wrap .u32 ((n + m : Nat) : Int) = (((n + m) % 4294967296 : Nat) : Int)
      unfold IntKind.wrap; simp [IntKind.signed, IntKind.bits]
    rw [e2] at hr; exact hr
  | panicked ch => obtain ⟨_, _, _, hf, _⟩ := hR; simp at hf
  | outgrown => exact hR.elim
theorem add_tok (hY : ST.Ok Tryz.prog tabS) {w0 w : World} {φ : Phi} {h : HP} (r : Rel w0 φ h w) {vs : List Value} {op : Nat} {x y : Int} {c : AV} (hc : adT op x y = some c) (hv : RVs φ vs [.int .i64 (.ofNat op), .int .u32 x, .int .u32 y]) :
    Calls Tryz.prog 179 vs.toArray w (FinR w0 φ h w (.ret (.tup [c, vI (Int.ofNat 0)]) h)) := by
  unfold adT at hc
  cases hb : Nat.beq op 1 with
  | false => rw [hb] at hc; exact absurd (show (none : Option AV) = some c from hc) (by simp)
  | true =>
    rw [hb] at hc
    obtain rfl := Nat.eq_of_beq_eq_true hb
    have hc : addT x y = some c := hc
    have hr := hv.resT
    unfold addT at hc
    split at hc
    · obtain ⟨hq, h2⟩ := bif_eq hc
      rw [Bool.and_eq_true] at hq
      obtain rfl := Option.some.inj h2
      exact add_run hY r hr (Rho.ad hq.1 _ _ (Nat.eq_of_beq_eq_true hq.2))
    · obtain ⟨hq, h2⟩ := bif_eq hc
      rw [Bool.and_eq_true] at hq
      obtain rfl := Option.some.inj h2
      obtain rfl := Nat.eq_of_beq_eq_true hq.2
      exact add_run hY r hr (by rw [Nat.add_zero]; exact Nat.mod_eq_of_lt (Nat.lt_succ_of_le (Rho.lt _)))
    · obtain ⟨hq, h2⟩ := bif_eq hc
      rw [Bool.and_eq_true] at hq
      obtain rfl := Option.some.inj h2
      obtain rfl := Nat.eq_of_beq_eq_true hq.2
      exact add_run hY r hr (by rw [Nat.zero_add]; exact Nat.mod_eq_of_lt (Nat.lt_succ_of_le (Rho.lt _)))
    · simp at hc
theorem sd_ok (hY : ST.Ok Tryz.prog tabS) (w0 : World) : PrOk Tryz.prog w0 179 sdP := by
  refine ⟨⟨_, Tryz.func179, by kernel_rfl, by decide +kernel⟩, fun xs x φ h w vs hx r hv => ?_⟩
  unfold sdP at hx
  split at hx
  · cases hc : adT _ _ _ with
    | none => rw [hc] at hx; exact absurd (show (none : Option (AV × HP)) = some x from hx) (by simp)
    | some c => rw [hc] at hx; obtain rfl := Option.some.inj (show some (AV.tup [c, vI (Int.ofNat 0)], h) = some x from hx); exact add_tok hY r hc hv
  · cases hc : adT _ _ _ with
    | none => rw [hc] at hx; exact absurd (show (none : Option (AV × HP)) = some x from hx) (by simp)
    | some c => rw [hc] at hx; obtain rfl := Option.some.inj (show some (AV.tup [c, vI (Int.ofNat 0)], h) = some x from hx); exact add_tok hY r hc hv
  · exact calls_ok (by kernel_rfl) (ST.xok w0 hY) (ST.tab_ok hY) (SF_ok hY 60 _ _ _ _ _ (resP_ok hx)) r hv
  · simp at hx
end
def tabT : ST := .node 11 tabD (.node 12 (.pr 12 (memos [eA, eB])) tabD)
theorem okT (r : Nat → Nat) (lt : ∀ i, r i ≤ 4294967295) (ad : AdE r) : @ST.Ok (rhoE r lt ad) Tryz.prog tabT := by
  letI := rhoE r lt ad
  have okD : ST.Ok Tryz.prog tabD := .node _ _ _ (okY r lt ad) (.node _ _ _ (.pr _ _ fun w0 => sd_ok okS w0) (okY r lt ad))
  exact .node _ _ _ okD (.node _ _ _ (.pr _ _ fun w0 => pr_memo (by kernel_rfl) (okY r lt ad) (n := 900) ⟨_, Tryz.func12, by kernel_rfl, by decide +kernel⟩ (memos_ok fun e' he => by
    simp only [List.mem_cons, List.not_mem_nil, or_false] at he
    rcases he with rfl | rfl
    · exact ranA r lt ad
    · exact ranB r lt ad) w0) okD)
/-- Word k is the sum of the words k .. k. -/
def toksE (n k : Nat) : List AV := Nat.rec (fun _ => []) (fun _ ih k => .int .u32 (.negSucc (Nat.add (Nat.mul k 128) (Nat.succ k))) :: ih (Nat.succ k)) n k
def h0E (l : List AV) : HP := HP.new ⟨.h, .leaf⟩ (.cells false l)
def oE (x : AV) (h : HP) : Bool := isTrue (SF tabT 1000 5 [x] h .no)
theorem gN : oE .nils ⟨.h, .leaf⟩ = true := by kernel_rfl
theorem big (k : Nat) : oE (.slice .h 0 (k + 101) .unk) (h0E []) = true := by kernel_rfl
end
end Go.Proofs.YtblciblkocameaaGreat.Sx
