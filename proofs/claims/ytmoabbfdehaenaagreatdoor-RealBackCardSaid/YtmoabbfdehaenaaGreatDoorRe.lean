/- strings.Repeat as a function whose answer is known, over the shelf's contract. -/
import Derived.Test.YtmoabbfdehaenaaGreatDoorVa
import Derived.Test.YtmoabbfdehaenaaGreatDoorSh
set_option linter.unusedVariables false
set_option linter.unusedSimpArgs false
namespace Go.Proofs.YtmoabbfdehaenaaGreatDoor.Ev
open Go Go.RowKit
noncomputable section
def repL (s : List Nat) (n : Nat) : List Nat := Nat.rec [] (fun _ ih => cat s ih) n
def repP (xs : List AV) (h : HP) : Option (AV × HP) := match xs with
  | [.str s, .int .i64 (.ofNat c)] => bif Nat.ble c 1000 && Nat.ble (lenL s) 1000 then some (.str (repL s c), h) else none
  | _ => none
theorem repL_is : ∀ (s : List UInt8) (n : Nat), (Lib.repeatL s n).map UInt8.toNat = repL (s.map UInt8.toNat) n
  | s, 0 => rfl
  | s, n + 1 => by
    show (s ++ Lib.repeatL s n).map UInt8.toNat = cat (s.map UInt8.toNat) (repL (s.map UInt8.toNat) n)
    rw [cat_eq, List.map_append, repL_is s n]
section
variable [Rho]
theorem Rel.below {w0 w w' : World} {φ : Phi} {h : HP} (r : Rel w0 φ h w) (b : Below w.heap.size w w') : Rel w0 φ h w' :=
  ⟨b.os.trans r.os, b.tape.trans r.tape, b.output.trans r.output, Nat.le_trans r.size b.size, fun i hi => (b.block i (Nat.lt_of_lt_of_le hi r.size)).trans (r.old i hi), r.gb, r.wf,
    fun p l hp => ⟨(r.dom p l hp).1, Nat.lt_of_lt_of_le (r.dom p l hp).2 b.size⟩, fun p l k hp hk => (r.ok p l k hp hk).step (.refl _) (b.block _ (r.dom p l hp).2), r.inj⟩
theorem pr_rep {P : Program} {f : Nat} (hc : Callable P f)
    (hr : ∀ (s : ByteArray) (c : Nat) (w : World), c ≤ 9223372036854775807 → s.size * c ≤ 140737488355328 → Calls P f #[.string s, .int .i64 c] w fun e w' => e = .returned (.string ⟨(Lib.repeatL s.data.toList c).toArray⟩) ∧ Below w.heap.size w w') (w0 : World) : PrOk P w0 f repP := by
  refine ⟨hc, fun xs x φ h w vs hx r hv => ?_⟩
  unfold repP at hx
  split at hx
  · rename_i s c
    obtain ⟨hl, hx⟩ := bif_eq hx
    obtain rfl := Option.some.inj hx
    rw [Bool.and_eq_true] at hl
    have l1 := Nat.le_of_ble_eq_true hl.1
    have l2 := Nat.le_of_ble_eq_true hl.2
    cases hv with
    | cons v1 _ vs1 _ g1 gs1 =>
      cases gs1 with
      | cons v2 _ vs2 _ g2 gs2 =>
        cases gs2
        obtain rfl := (g2.int_inv (tokF_nat _ _)).1
        cases g1 with
        | str b1 _ e1 =>
          have e1 : b1.data.toList.map UInt8.toNat = s := e1
          subst e1
          rw [lenL_eq, List.length_map] at l2
          have hsz : b1.size ≤ 1000 := l2
          have hm : b1.size * c ≤ 1000 * 1000 := Nat.mul_le_mul hsz l1
          refine Calls.mono (hr b1 c w (by omega) (by omega)) fun e w' ⟨he, hb⟩ => ?_
          subst he
          exact ⟨φ, _, h, rfl, .str _ _ (by
            show (Lib.repeatL b1.data.toList c).toArray.toList.map UInt8.toNat = _
            rw [List.toList_toArray, repL_is]), r.below hb, ⟨.refl _, Nat.le_refl _, hb.size, fun _ _ h => ⟨h, rfl⟩⟩⟩
  · simp at hx
end
end
end Go.Proofs.YtmoabbfdehaenaaGreatDoor.Ev
