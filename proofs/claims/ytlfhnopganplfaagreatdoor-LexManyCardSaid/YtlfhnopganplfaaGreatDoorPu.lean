/- strconv.ParseUint at rows of digits (base 10, 32 bits) as a function whose answer is known. -/
import Derived.Test.YtlfhnopganplfaaGreatDoorVa
import Derived.Test.YtlfhnopganplfaaGreatDoorSh
import Derived.Lib.SmallJoins
set_option linter.unusedVariables false
set_option linter.unusedSimpArgs false
namespace Go.Proofs.YtlfhnopganplfaaGreatDoor.Ev
open Go Go.RowKit
noncomputable section
def dgs (l : List Nat) : Bool := List.rec true (fun c _ ih => Bool.rec false (Bool.rec false ih (Nat.ble c 57)) (Nat.ble 48 c)) l
def vlA (l : List Nat) : Nat → Nat := List.rec (motive := fun _ => Nat → Nat) (fun a => a) (fun c _ ih a => ih (Nat.add (Nat.mul a 10) (Nat.sub c 48))) l
def nonE (l : List Nat) : Bool := List.rec false (fun _ _ _ => true) l
theorem dgs_cons (c : Nat) (l : List Nat) : dgs (c :: l) = (Bool.rec false (Bool.rec false (dgs l) (Nat.ble c 57)) (Nat.ble 48 c) : Bool) := rfl
theorem vlA_cons (c : Nat) (l : List Nat) (a : Nat) : vlA (c :: l) a = vlA l (a * 10 + (c - 48)) := rfl
theorem vlA_ge : ∀ (l : List Nat) (a : Nat), a ≤ vlA l a
  | [], a => Nat.le_refl a
  | c :: l, a => by rw [vlA_cons]; have := vlA_ge l (a * 10 + (c - 48)); omega
theorem dgs_cons' {c : Nat} {l : List Nat} (h : dgs (c :: l) = true) : 48 ≤ c ∧ c ≤ 57 ∧ dgs l = true := by
  rw [dgs_cons] at h
  cases h1 : Nat.ble 48 c with
  | false => rw [h1] at h; exact Bool.noConfusion (show false = true from h)
  | true =>
    rw [h1] at h
    cases h2 : Nat.ble c 57 with
    | false => rw [h2] at h; exact Bool.noConfusion (show false = true from h)
    | true => rw [h2] at h; exact ⟨Nat.le_of_ble_eq_true h1, Nat.le_of_ble_eq_true h2, h⟩
theorem dgs_of {l : List Nat} (h : ∀ c ∈ l, 48 ≤ c ∧ c ≤ 57) : dgs l = true := by
  induction l with
  | nil => rfl
  | cons c l ih =>
    obtain ⟨h1, h2⟩ := h c (by simp)
    rw [dgs_cons, show Nat.ble 48 c = true from by rw [Nat.ble_eq]; exact h1, show Nat.ble c 57 = true from by rw [Nat.ble_eq]; exact h2]
    exact ih fun x hx => h x (by simp [hx])
/-- Rows of digits, as the library's function reads them. -/
theorem pu_is : ∀ (b : List UInt8) (a : Nat), a ≤ 4294967295 → dgs (b.map UInt8.toNat) = true →
    Lib.parseUintM 4294967295 a b = if vlA (b.map UInt8.toNat) a ≤ 4294967295 then .ok (vlA (b.map UInt8.toNat) a) else .range
  | [], a, ha, h => by
    rw [show vlA ([].map UInt8.toNat) a = a from rfl, if_pos ha]; rfl
  | c :: b, a, ha, h => by
    obtain ⟨h1, h2, h3⟩ := dgs_cons' (show dgs (c.toNat :: b.map UInt8.toNat) = true from h)
    rw [show (c :: b).map UInt8.toNat = c.toNat :: b.map UInt8.toNat from rfl, vlA_cons]
    unfold Lib.parseUintM
    rw [if_pos ⟨h1, h2⟩, if_neg (by omega)]
    by_cases g : 4294967295 < a * 10 + (c.toNat - 48)
    · rw [if_pos g, if_neg (by have := vlA_ge (b.map UInt8.toNat) (a * 10 + (c.toNat - 48)); omega)]
    · rw [if_neg g, pu_is b _ (by omega) h3]
def puA (h : HP) (n : Nat) : AV × HP := bif Nat.ble n 4294967295 then (.tup [.int .u64 (.ofNat n), .nili], h) else (.tup [.int .u64 (.ofNat 4294967295), .iface 71 (.ptr (HP.nxQ h) 0)], HP.newQ h (.cells false []))
def puP (xs : List AV) (h : HP) : Option (AV × HP) := match xs with
  | [.str s, .int .i64 (.ofNat b), .int .i64 (.ofNat k)] => bif Nat.beq b 10 && (Nat.beq k 32 && (dgs s && (nonE s && Nat.ble (lenL s) 10000))) then some (puA h (vlA s 0)) else none
  | _ => none
section
variable [Rho]
theorem Rel.below {w0 w w' : World} {φ : Phi} {h : HP} (r : Rel w0 φ h w) (b : Below w.heap.size w w') : Rel w0 φ h w' :=
  ⟨b.os.trans r.os, b.tape.trans r.tape, b.output.trans r.output, Nat.le_trans r.size b.size, fun i hi => (b.block i (Nat.lt_of_lt_of_le hi r.size)).trans (r.old i hi), r.gb, r.wf,
    fun p l hp => ⟨(r.dom p l hp).1, Nat.lt_of_lt_of_le (r.dom p l hp).2 b.size⟩, fun p l k hp hk => (r.ok p l k hp hk).step (.refl _) (b.block _ (r.dom p l hp).2), r.inj⟩
/-- A new block of which nothing is known. -/
theorem Rel.born {w0 w w' : World} {φ : Phi} {h : HP} (r : Rel w0 φ h w) (b : Below w.heap.size w w') {N : Nat} (hN : w.heap.size ≤ N) {c : Array Value} {el : TypeId} {fz : Nat × Nat} (hc : w'.heap[N]? = some (.cells c el fz)) :
    Rel w0 (φ.add h.nx ⟨N, 0, 0⟩) (h.new (.cells false [])) w' ∧ Ext φ h w (φ.add h.nx ⟨N, 0, 0⟩) (h.new (.cells false [])) w' := by
  have hn := r.nx_none
  have hle := Phi.add_le (l := ⟨N, 0, 0⟩) hn
  have r' := r.below b
  have hlt : N < w'.heap.size := by
    rcases Nat.lt_or_ge N w'.heap.size with k | k
    · exact k
    · rw [Array.getElem?_eq_none k] at hc; simp at hc
  refine ⟨⟨r'.os, r'.tape, r'.output, r'.size, r'.old, ⟨r'.gb.1.trans hle, r'.gb.2⟩, fun p hp => ?_, fun p l hp => ?_, fun p l k hp hk => ?_, fun p p' l l' k k' hp hp' hk hk' hw hb => ?_⟩, ⟨hle, by rw [HP.nx_new, Pos.toNat_succ]; omega, b.size, fun p hp hnp => ?_⟩⟩
  · rw [HP.nx_new, Pos.toNat_succ] at hp
    rw [HP.get_new, if_neg (by intro e; subst e; omega)]; exact r'.wf p (by omega)
  · rw [HP.nx_new, Pos.toNat_succ]
    unfold Phi.add at hp
    split at hp
    · rename_i e; subst e
      obtain rfl := Option.some.inj hp
      exact ⟨by omega, hlt⟩
    · have := r'.dom p l hp; exact ⟨by omega, this.2⟩
  · rw [HP.get_new] at hk
    unfold Phi.add at hp
    by_cases e : p = h.nx
    · rw [if_pos e] at hp hk
      obtain rfl := Option.some.inj hp
      obtain rfl := Option.some.inj hk
      exact ⟨[], .nil, .inr ⟨by have := r.size; show w0.heap.size ≤ N; omega, c, el, fz, hc, fun i v hi => by simp at hi⟩⟩
    · rw [if_neg e] at hp hk
      exact (r'.ok p l k hp hk).step hle rfl
  · rw [HP.get_new] at hk hk'
    unfold Phi.add at hp hp'
    by_cases e : p = h.nx
    · rw [if_pos e] at hk
      obtain rfl := Option.some.inj hk
      exact Bool.noConfusion (show false = true from hw)
    · rw [if_neg e] at hp hk
      by_cases e' : p' = h.nx
      · rw [if_pos e'] at hp'
        obtain rfl := Option.some.inj hp'
        have := (r.dom p l hp).2
        have hb : l.blk = N := hb
        omega
      · rw [if_neg e'] at hp' hk'
        exact r'.inj p p' l l' k k' hp hp' hk hk' hw hb
  · have : p ≠ h.nx := by intro e; subst e; omega
    exact ⟨by simp [Phi.add, this, hnp], by rw [HP.get_new, if_neg this]⟩
theorem pr_pu {P : Program} {f g : Nat} (hc : Callable P f)
    (hok : ∀ (s : ByteArray), s.size ≤ 9223372036854775806 → ∀ (u : Nat), Lib.parseUintB 32 s.data.toList = .ok u → ∀ (w : World), Calls P f #[.string s, .int .i64 10, .int .i64 32] w fun e w' => e = .returned (.tuple #[.int .u64 u, .nilIface]) ∧ (w' = w ∨ w' = Lib.bytesWorld w 5 s))
    (hra : ∀ (s : ByteArray), s.size ≤ 281474976710656 → Lib.parseUintB 32 s.data.toList = .range → ∀ (ev : Value) (w : World), w.cell? ⟨g, 0, none⟩ = some ev → (ev = .nilIface ∨ ∃ te pe, ev = .iface te pe) →
      Calls P f #[.string s, .int .i64 10, .int .i64 32] w fun e w' => ∃ N, e = .returned (.tuple #[.int .u64 4294967295, .iface 71 (.pointer (some ⟨N, 0, none⟩))]) ∧ w.heap.size ≤ N ∧ (∃ c el fz, w'.heap[N]? = some (.cells c el fz)) ∧ Below w.heap.size w w')
    (hg : ∀ w : World, GB w → ∃ te pe, w.cell? ⟨g, 0, none⟩ = some (.iface te pe)) (w0 : World) : PrOk P w0 f puP := by
  refine ⟨hc, fun xs x φ h w vs hx r hv => ?_⟩
  unfold puP at hx
  split at hx
  · rename_i s b k
    obtain ⟨hl, hx⟩ := bif_eq hx
    obtain rfl := Option.some.inj hx
    simp only [Bool.and_eq_true] at hl
    obtain ⟨h1, h2, h3, h4, h5⟩ := hl
    obtain rfl := Nat.eq_of_beq_eq_true h1
    obtain rfl := Nat.eq_of_beq_eq_true h2
    have h5 := Nat.le_of_ble_eq_true h5
    cases hv with
    | cons v1 _ vs1 _ g1 gs1 =>
      cases gs1 with
      | cons v2 _ vs2 _ g2 gs2 =>
        cases gs2 with
        | cons v3 _ vs3 _ g3 gs3 =>
          cases gs3
          obtain rfl := (g2.int_inv (tokF_nat _ _)).1
          obtain rfl := (g3.int_inv (tokF_nat _ _)).1
          cases g1 with
          | str b1 _ e1 =>
            have e1 : b1.data.toList.map UInt8.toNat = s := e1
            subst e1
            rw [lenL_eq, List.length_map] at h5
            have hsz : b1.size ≤ 10000 := h5
            have hne : b1.data.toList ≠ [] := by
              intro e; rw [e] at h4; exact Bool.noConfusion (show false = true from h4)
            have hp : Lib.parseUintB 32 b1.data.toList = if vlA (b1.data.toList.map UInt8.toNat) 0 ≤ 4294967295 then .ok (vlA (b1.data.toList.map UInt8.toNat) 0) else .range := by
              unfold Lib.parseUintB
              rw [if_neg hne]
              exact pu_is _ 0 (by omega) h3
            generalize vlA (b1.data.toList.map UInt8.toNat) 0 = n at hp ⊢
            by_cases hn : n ≤ 4294967295
            · rw [if_pos hn] at hp
              have eA : puA h n = (.tup [.int .u64 (.ofNat n), .nili], h) := by
                unfold puA
                rw [show Nat.ble n 4294967295 = true from by rw [Nat.ble_eq]; exact hn]; rfl
              rw [eA]
              refine Calls.mono (hok b1 (by omega) n hp w) fun e w' ⟨he, hw⟩ => ?_
              subst he
              have bl : Below w.heap.size w w' := by
                rcases hw with rfl | rfl
                · exact Below.refl _ _
                · exact Go.Joins.below_bytesWorld _ _ _ _ (Nat.le_refl _)
              exact ⟨φ, _, h, rfl, .tup _ _ (.cons _ _ _ _ (.int _ _ (InR.nn (by decide))) (.cons _ _ _ _ .nili .nil)), r.below bl, ⟨.refl _, Nat.le_refl _, bl.size, fun _ _ h => ⟨h, rfl⟩⟩⟩
            · rw [if_neg hn] at hp
              have eA : puA h n = (.tup [.int .u64 (.ofNat 4294967295), .iface 71 (.ptr (HP.nxQ h) 0)], HP.newQ h (.cells false [])) := by
                unfold puA
                rw [show Nat.ble n 4294967295 = false from by
                  cases q : Nat.ble n 4294967295 with
                  | false => rfl
                  | true => exact absurd (Nat.le_of_ble_eq_true q) hn]
                rfl
              rw [eA, HP.newQ_eq, HP.nxQ_eq]
              obtain ⟨te, pe, hcell⟩ := hg w (GB.on r)
              refine Calls.mono (hra b1 (by omega) hp _ w hcell (.inr ⟨te, pe, rfl⟩)) fun e w' ⟨N, he, hN, ⟨c, el, fz, hrow⟩, bl⟩ => ?_
              subst he
              obtain ⟨r2, x2⟩ := r.born bl hN hrow
              refine ⟨_, _, _, rfl, .tup _ _ (.cons _ _ _ _ (.int _ _ (InR.nn (by decide))) (.cons _ _ _ _ (.iface _ _ _ (.ptr _ 0 ⟨N, 0, 0⟩ (by simp [Phi.add]))) .nil)), r2, x2⟩
  · simp at hx
end
end
end Go.Proofs.YtlfhnopganplfaaGreatDoor.Ev
