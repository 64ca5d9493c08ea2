/- slices.Sorted(maps.Keys(m)) of a map of texts to truth values that has one entry or none: contract and prim. -/
import Derived.Test.YtdeeainihfnbdaaGreatDoorFz
import Derived.Test.YtdeeainihfnbdaaGreatDoorSh
import Derived.Shelf.SlIter.Nil
import Derived.WalkKit
import Derived.OwnWalkIn
import Derived.TacticsInMore
import Derived.LoopNIn
import Derived.LoopIn
namespace Go.Proofs.YtdeeainihfnbdaaGreatDoor.So
open Go Go.Proofs Go.RowKit Go.Maps Go.Sort Go.Shelf
set_option linter.unusedVariables false
set_option linter.unusedSectionVars false
theorem sorts (m : Nat) : AnyZ.SortsIn Tryz.prog Tryz.sorted39_ren Fence.wide m :=
  ⟨fun blk off cap ss W hH hblk hsz => callsIn_wide.2 (AnyM.slices_Sort_string Tryz.sort19 blk off cap ss W hH hblk hsz),
   fun p cap W => callsIn_wide.2 (AnyM.slices_Sort_string_none Tryz.sort19 p cap W)⟩
set_option maxRecDepth 100000 in
set_option maxHeartbeats 1000000 in
/-- maps.Keys's iterator, its map in whatever cell. -/
theorem keysN_in {H : Type} (F : Fence) (n : Nat) (h10 : F.fn 77) (hro : F.round = none) (hn : 1 ≤ n) (l Bm off b nn : Nat) (D0 : DataW H) {R : Value → Option (DataW H × List MemPlace)} (J : List (List UInt8) → World → Prop)
    (hY : ∀ pre x W, J pre W → pre.length < Maps.size D0 → YieldAt F (n - 1) Tryz.prog l #[encStr x] W fun e W' => e = .returned (.bool true) ∧ J (pre ++ [x]) W' ∧ KeepsWalks W W')
    (W : World) (hJ : AbidesFrom W.heap.size J) (hm : W.cell? ⟨Bm, off, none⟩ = some (.map (some b))) (hown : W.ownsMap Tryz.prog 9 R b nn D0) (h0 : J [] W) :
    CallsIn F n Tryz.prog 77 #[.func (.yield l) #[] #[], .pointer (some ⟨Bm, off, none⟩)] W fun e W' => (∃ v, e = .returned v) ∧ ∃ ss : List (List UInt8), ss.Perm (strKeys D0) ∧ J ss W' := by
  refine callsIn_of_wp Tryz.func77 rfl h10 ?_ hro
  simp only [Tryz.ntmps77, List.size_toArray, List.length_cons, List.length_nil, Nat.reduceAdd, Nat.reduceSub, Array.replicate_succ, Array.replicate_zero, List.push_toArray, List.append_toArray, List.nil_append, List.cons_append]
  gi_wp2_with (first
    | (gi_at_range; refine wpListIn_range_own _ rfl _ 90 rfl 9 4 (string_keyed Tryz.underlying9) Tryz.underlying90 _ b nn _ rfl hown ?_; intro w0 hrg0 hg0 hs0)
    | gi_in)
  go_frame
  gi_loopw [3] (fun _ wr => ∃ (left : Lit → Bool) (cnt : Nat) (ss : List (List UInt8)), wr.ranges Tryz.prog 9 R b W.heap.size nn D0 left cnt ∧ ss.length + cnt ≤ Maps.size D0 ∧ Collected D0 left ss ∧ J ss wr)
    (fun _ wr => wr.rangeLeft b W.heap.size)
  case atStart =>
    exact ⟨_, _, [], hrg0, by simp, Collected.start D0, hJ [] W w0 none h0 hg0 (fun r e => by cases e)⟩
  case round =>
    obtain ⟨left, cnt, ss, hrg, hcs, hC, hJs⟩ := hrel
    gi_wp2_with (first
      | (gi_at_next; refine wpListIn_next_ranges _ rfl _ rfl 9 (string_keyed Tryz.underlying9) R encStr id (fun key kl hk => by obtain ⟨x, hx, _⟩ := Maps.keyOf_str Tryz.underlying9 hk; exact ⟨x, hx⟩) (fun v _ _ => ⟨v, rfl⟩) b W.heap.size nn _ _ _ rfl hrg ?_ ?_)
      | gi_in)
    · intro hc0 hl0
      gi_wp2
      go_end0
      exact ⟨⟨_, rfl⟩, ss, hC.perm hown (string_keyed Tryz.underlying9) Tryz.underlying9 hl0, hJs⟩
    · intro x c kl yd yp w2 cnt2 hkey hlk hv hat hrg2 hlt hg2 hs2 hen
      obtain ⟨x', ex, rfl, _⟩ := Maps.keyOf_str Tryz.underlying9 hkey
      obtain rfl : x = x' := encStr_inj ex
      have hJ2 : J ss w2 := hJ ss wr w2 (some W.heap.size) hJs hg2 (fun r e => by cases e; exact ⟨Nat.le_refl _, hrg.iter_walk⟩)
      obtain ⟨fn, tmps, assign, body, hy, hR⟩ := hY ss x w2 hJ2 (by omega)
      clear hs2
      gi_wp2
      refine hR.mono ?_
      rintro e W3 ⟨rfl, hJ3, hk3⟩
      gi_wp2
      have hrg3 := hrg2.of_walks hk3
      go_roundw
      case rel => exact ⟨_, cnt2, ss ++ [x], hrg3, by simp; omega, hC.step hlk hat, hJ3⟩
      case measure => rw [hrg3.left_eq, hrg.left_eq]; exact hlt
theorem keys_gives {H : Type} (F : Fence) (n : Nat) (h10 : F.fn 77) (hro : F.round = none) (hn : 1 ≤ n) (Bm off b nn : Nat) (D0 : DataW H) {R : Value → Option (DataW H × List MemPlace)} (w : World) (hBm : Bm < w.heap.size)
    (hm : w.cell? ⟨Bm, off, none⟩ = some (.map (some b))) (hown : w.ownsMap Tryz.prog 9 R b nn D0) :
    SeqGives F n Tryz.prog 77 #[.pointer (some ⟨Bm, off, none⟩)] encStr (fun ss => ss.Perm (strKeys D0)) (Maps.size D0) w := fun l J W hW hJ hY h0 => by
  have hown' : W.ownsMap Tryz.prog 9 R b nn D0 := by
    have hbl := hown.lt
    obtain ⟨es, clock, hb, Ft, hs, hD⟩ := hown
    exact ⟨es, clock, (hW.block b hbl).trans hb, Ft, hs, hD⟩
  exact keysN_in F n h10 hro hn l Bm off b nn D0 J hY W hJ ((hW.cell (p := ⟨Bm, off, none⟩) hBm).trans hm) hown' h0
set_option maxHeartbeats 1000000 in
theorem sorted_at {H : Type} (Bm off b nn : Nat) (D0 : DataW H) (R : Value → Option (DataW H × List MemPlace)) (w : World) (hBm : Bm < w.heap.size) (hm : w.cell? ⟨Bm, off, none⟩ = some (.map (some b))) (hown : w.ownsMap Tryz.prog 9 R b nn D0) (hmax : Maps.size D0 ≤ maxLen) (hbytes : Maps.size D0 * 16 ≤ 140737488355328) :
    CallsIn Fence.wide 5 Tryz.prog 39 #[.func (.func 77) #[] #[.pointer (some ⟨Bm, off, none⟩)]] w fun e w' => ∃ (v : Value) (ss : List (List UInt8)), e = .returned v ∧ ss.Perm (strKeys D0) ∧
      w'.ownsRow w.heap.size 9 1 v ss.length ((ss.mergeSort (fun x y => decide (x ≤ y))).map encStr) ∧ (v = .slice none 0 0 ↔ ss = []) ∧ Below w.heap.size w w' :=
  AnyZ.sorted_in Tryz.sorted39 Fence.wide 5 trivial trivial trivial trivial rfl (by omega) (sorts _) (enters_of Tryz.func19 (by kernel_rfl) rfl) 77 #[.pointer (some ⟨Bm, off, none⟩)] trivial (enters_of Tryz.func77 (by kernel_rfl) rfl) _ _ hmax hbytes _
    (keys_gives Fence.wide _ trivial rfl (by omega) Bm off b nn D0 w hBm hm hown)
section
open Go.Proofs.YtdeeainihfnbdaaGreatDoor.Ev
variable [Rho]
theorem relBelow {w0 w W : World} {φ : Phi} {h : HP} (r : Rel w0 φ h w) (b : Below w.heap.size w W) : Rel w0 φ h W :=
  ⟨b.os.trans r.os, b.tape.trans r.tape, b.output.trans r.output, Nat.le_trans r.size b.size, fun k hk => (b.block k (Nat.lt_of_lt_of_le hk r.size)).trans (r.old k hk), r.gb, r.wf,
    fun p l hl => ⟨(r.dom p l hl).1, Nat.lt_of_lt_of_le (r.dom p l hl).2 b.size⟩, fun p l k hl hk => BlkOk.step (.refl _) (b.block _ (r.dom p l hl).2) (r.ok p l k hl hk), r.inj⟩
/-- A block that a call has laid, taken in. -/
theorem relNew {w0 w w' : World} {φ : Phi} {h : HP} (r : Rel w0 φ h w) (b : Below w.heap.size w w') {g sz : Nat} (hg1 : w.heap.size ≤ g) (hg2 : g < w'.heap.size) {k : Blk} (hk : BlkOk w0 (φ.add h.nx ⟨g, 0, sz⟩) w' ⟨g, 0, sz⟩ k) :
    Rel w0 (φ.add h.nx ⟨g, 0, sz⟩) (h.new k) w' ∧ Ext φ h w (φ.add h.nx ⟨g, 0, sz⟩) (h.new k) w' := by
  have hn := r.nx_none
  have hle := Phi.add_le (l := ⟨g, 0, sz⟩) hn
  refine ⟨⟨b.os.trans r.os, b.tape.trans r.tape, b.output.trans r.output, Nat.le_trans r.size b.size, ?_, ?_, by intro p hp; rw [HP.nx_new, Pos.toNat_succ] at hp; rw [HP.get_new, if_neg (by intro e; subst e; omega)]; exact r.wf p (by omega), ?_, ?_, ?_⟩, ⟨hle, by rw [HP.nx_new, Pos.toNat_succ]; omega, b.size, ?_⟩⟩
  · intro i hi; rw [b.block i (by have := r.size; omega)]; exact r.old i hi
  · exact ⟨r.gb.1.trans hle, r.gb.2⟩
  · intro p l hp
    unfold Phi.add at hp
    split at hp
    · rename_i e; subst e; simp only [Option.some.injEq] at hp; subst hp
      exact ⟨by rw [HP.nx_new, Pos.toNat_succ]; omega, hg2⟩
    · have := r.dom p l hp
      exact ⟨by rw [HP.nx_new, Pos.toNat_succ]; omega, Nat.lt_of_lt_of_le this.2 b.size⟩
  · intro p l q hp hq
    rw [HP.get_new] at hq
    unfold Phi.add at hp
    by_cases e : p = h.nx
    · rw [if_pos e] at hp hq
      simp only [Option.some.injEq] at hp hq
      subst hp hq
      exact hk
    · rw [if_neg e] at hp hq
      exact (r.ok p l q hp hq).step hle (b.block _ (r.dom p l hp).2)
  · intro p p' l l' q q' hp hp' hq hq' hwr hblk
    rw [HP.get_new] at hq hq'
    unfold Phi.add at hp hp'
    by_cases e : p = h.nx <;> by_cases e' : p' = h.nx
    · rw [e, e']
    · rw [if_pos e] at hp; rw [if_neg e'] at hp'
      simp only [Option.some.injEq] at hp; subst hp
      have := (r.dom p' l' hp').2
      simp only at hblk; omega
    · rw [if_neg e] at hp; rw [if_pos e'] at hp'
      simp only [Option.some.injEq] at hp'; subst hp'
      have := (r.dom p l hp).2
      simp only at hblk; omega
    · rw [if_neg e] at hp hq; rw [if_neg e'] at hp' hq'
      exact r.inj p p' l l' q q' hp hp' hq hq' hwr hblk
  · intro p hp hpn
    have : p ≠ h.nx := by intro e; subst e; omega
    refine ⟨by simp [Phi.add, this, hpn], by rw [HP.get_new, if_neg this]⟩
noncomputable section
def sortP (xs : List AV) (h : HP) : Option (AV × HP) :=
  match xs with
  | [.fn f [] [.ptr c o]] => bif Nat.beq f 77 then ob (HP.get h c) fun k => match k with
    | .cells _ vs => ob (nth vs o) fun m => match m with
      | .map b => ob (HP.get h b) fun k2 => match k2 with
        | .map [] _ => some (.nils, h)
        | .map [(.str s, _)] _ => bif Nat.ble (lenL s) 10000 then some (.slice h.nx 0 1 .unk, h.new (.cells false [.str s])) else none
        | _ => none
      | _ => none
    | _ => none else none
  | _ => none
end
theorem pr_sort (w0 : World) : PrOk Tryz.prog w0 39 sortP := by
  refine ⟨⟨_, Tryz.func39, by kernel_rfl, by decide +kernel⟩, fun xs x φ h w vs hx r hv => ?_⟩
  unfold sortP at hx
  split at hx
  · rename_i f c o
    obtain ⟨hf, hx⟩ := bif_eq hx
    obtain rfl := Nat.eq_of_beq_eq_true hf
    obtain ⟨k, hk, hx⟩ := ob_eq hx
    split at hx
    · rename_i wr cvs
      obtain ⟨m, hm, hx⟩ := ob_eq hx
      rw [nth_eq] at hm
      split at hx
      · rename_i b
        obtain ⟨k2, hk2, hx⟩ := ob_eq hx
        cases hv with
        | cons v1 _ vs1 _ hv1 hs1 =>
          cases hs1
          cases hv1 with
          | fn _ aa cc _ _ ha hc =>
            have ea : aa = #[] := by
              cases hl : aa.toList with
              | nil => exact Array.toList_inj.1 hl
              | cons _ _ => rw [hl] at ha; cases ha
            subst ea
            cases hcl : cc.toList with
            | nil => rw [hcl] at hc; cases hc
            | cons pv rest =>
              rw [hcl] at hc
              cases hc with
              | cons _ _ _ _ hpv hrest =>
                cases hrest
                obtain rfl : cc = #[pv] := Array.toList_inj.1 hcl
                cases hpv with
                | ptr _ _ l hl =>
                  obtain ⟨cs, hcs, hcell⟩ := r.read hl hk
                  obtain ⟨u, hu, hru⟩ := hcs.get hm
                  have hcu := hcell o u hu
                  cases hru with
                  | map _ lm hlm =>
                    have fin : ∀ (D0 : DataW Unit), Maps.size D0 ≤ 1 →
                        w.ownsMap Tryz.prog 9 (fun _ => some (.lit (.bool true), [])) lm.blk 1 D0 →
                        (∀ v ss w', ss.Perm (strKeys D0) → World.ownsRow w' w.heap.size 9 1 v ss.length ((ss.mergeSort (fun x y => decide (x ≤ y))).map encStr) → (v = .slice none 0 0 ↔ ss = []) → Below w.heap.size w w' →
                          ∃ φ', RV φ' v x.1 ∧ Rel w0 φ' x.2 w' ∧ Ext φ h w φ' x.2 w') →
                        Calls Tryz.prog 39 [Value.func (.func 77) #[] #[.pointer (some ⟨l.blk, l.off + o, none⟩)]].toArray w (FinR w0 φ h w (.ret x.1 x.2)) := fun D0 hsz hown hk => by
                      refine Calls.mono (callsIn_wide.1 (sorted_at l.blk (l.off + o) lm.blk 1 D0 _ w (r.dom _ _ hl).2 hcu hown (Nat.le_trans hsz (by decide)) (by omega))) fun e w' ⟨v, ss, he, h1, h2, h3, h4⟩ => ?_
                      subst he
                      obtain ⟨φ', g1, g2, g3⟩ := hk v ss w' h1 h2 h3 h4
                      exact ⟨φ', x.1, x.2, rfl, g1, g2, g3⟩
                    split at hx
                    · rename_i clk
                      obtain rfl := Option.some.inj hx
                      obtain ⟨_, ents, hent, hp, hwf⟩ := r.ok b lm _ hlm hk2
                      have he : ents = #[] := by
                        cases hl' : ents.toList with
                        | nil => exact Array.toList_inj.1 hl'
                        | cons _ _ => rw [hl'] at hp; cases hp
                      subst he
                      exact fin (.map []) (by show 0 ≤ 1; omega) ⟨#[], clk, hent, ⟨by simp, ⟨by simp, by simp, by simp⟩, by simp⟩, by simp, rfl⟩ (fun v ss w' h1 h2 h3 h4 => by
                        have : ss = [] := by simpa [strKeys] using h1
                        subst this
                        obtain rfl := h3.2 rfl
                        exact ⟨φ, .nils, relBelow r h4, ⟨.refl φ, Nat.le_refl _, h4.size, fun _ _ hh => ⟨hh, rfl⟩⟩⟩)
                    · rename_i s vv clk
                      obtain ⟨hle, hx⟩ := bif_eq hx
                      obtain rfl := Option.some.inj hx
                      have hle := Nat.le_of_ble_eq_true hle
                      obtain ⟨_, ents, hent, hp, hwf⟩ := r.ok b lm _ hlm hk2
                      cases hel : ents.toList with
                      | nil => rw [hel] at hp; cases hp
                      | cons e rest =>
                        rw [hel] at hp
                        cases hp with
                        | cons _ _ _ _ _ hk' hv' hs' =>
                          cases hs'
                          generalize hke : e.key = kv at hk'
                          cases hk' with
                          | str kb _ hkb =>
                            obtain rfl : ents = #[e] := Array.toList_inj.1 hel
                            have hks : kb.size ≤ maxLen := by
                              rw [lenL_eq, ← hkb] at hle
                              unfold nats at hle
                              have e1 : kb.data.toList.length = kb.size := rfl
                              have e2 : (10000 : Nat) ≤ maxLen := by decide
                              simp only [List.length_map] at hle
                              omega
                            have hrd : WideElems.rd Tryz.prog 9 (fun _ => some ((.lit (.bool true) : DataW Unit), ([] : List MemPlace))) e = some (.string kb.data.toList, .lit (.bool true)) := by
                              unfold WideElems.rd
                              rw [hke, WideMaps.keyOf_string_mk Tryz.underlying9 hks]
                              rfl
                            refine fin (.map [(.string kb.data.toList, .lit (.bool true))]) (by show 1 ≤ 1; omega) ⟨#[e], clk, hent, ⟨by show 1 ≤ maxLen; decide, ⟨hwf.1, hwf.2, by simp⟩, fun x' hx' => by simp at hx'; subst hx'; exact ⟨_, hrd⟩⟩, by simp, by simp [WideElems.rg_of hrd, DataW.insert]⟩ (fun v ss w' h1 h2 h3 h4 => ?_)
                            have hss : ss = [kb.data.toList] := by
                              have : strKeys (.map [(.string kb.data.toList, .lit (.bool true))] : DataW Unit) = [kb.data.toList] := rfl
                              rw [this] at h1
                              exact List.perm_singleton.1 h1
                            subst hss
                            rcases h2.2 with ⟨rfl, h0⟩ | ⟨g, cap, cur, rfl, hg1, hg2, hg3, hg4, hg5, hg6⟩
                            · simp at h0
                            · have hg6 : cur.toList.take 1 = [encStr kb.data.toList] := by simpa using hg6
                              have hg3 : 1 ≤ cap := by simpa using hg3
                              have hc0 : cur[0]? = some (.string kb) := by
                                have h : (cur.toList.take 1)[0]? = some (encStr kb.data.toList) := by rw [hg6]; rfl
                                rw [List.getElem?_take] at h
                                simpa [encStr] using h
                              obtain ⟨q1, q2⟩ := relNew (sz := 0) (k := .cells false [.str s]) r h4 hg1 (Array.getElem?_eq_some_iff.1 hg2).1
                                ⟨[.string kb], .cons _ _ _ _ (.str kb s hkb) .nil, .inr ⟨Nat.le_trans r.size hg1, cur, 9, (0, 0), hg2, fun i v' hi => by
                                  cases i with
                                  | zero => simp at hi; subst hi; simpa using hc0
                                  | succ i => simp at hi⟩⟩
                              exact ⟨_, .slice h.nx 0 1 cap .unk ⟨g, 0, 0⟩ Phi.add_same hg3 (fun _ e => by cases e) (fun _ e => by cases e), q1, q2⟩
                    · simp at hx
      · simp at hx
    · simp at hx
  · simp at hx
end
end Go.Proofs.YtdeeainihfnbdaaGreatDoor.So
