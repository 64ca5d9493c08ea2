/- The first heap: internal/bytealg.MaxLen holds whatever number; strconv's optimize, float64info, float64pow10 what their text says. -/
import Derived.Test.YtlfhnopganplfaaGreatDoorFz
import Derived.Test.YtlfhnopganplfaaGreatDoorProg
import Derived.LaidMore
import Derived.OpenShut
set_option linter.unusedVariables false
set_option linter.unusedSimpArgs false
namespace Go.Proofs.YtlfhnopganplfaaGreatDoor.Ev
open Go
noncomputable section
def tabN : List Nat := [4607182418800017408, 4621819117588971520, 4636737291354636288, 4652007308841189376, 4666723172467343360, 4681608360884174848, 4696837146684686336, 4711630319722168320, 4726483295884279808, 4741671816366391296, 4756540486875873280, 4771362005757984768, 4786511204640096256, 4801453603149578240, 4816244402031689728, 4831355200913801216, 4846369599423283200, 4861130398305394688, 4876203697187506176, 4891288408196988160, 4906019910204099648, 4921056587992461136, 4936209963552724370]
def tabF : List AV := [.flt .f64 4607182418800017408, .flt .f64 4621819117588971520, .flt .f64 4636737291354636288, .flt .f64 4652007308841189376, .flt .f64 4666723172467343360, .flt .f64 4681608360884174848, .flt .f64 4696837146684686336, .flt .f64 4711630319722168320, .flt .f64 4726483295884279808, .flt .f64 4741671816366391296, .flt .f64 4756540486875873280, .flt .f64 4771362005757984768, .flt .f64 4786511204640096256, .flt .f64 4801453603149578240, .flt .f64 4816244402031689728, .flt .f64 4831355200913801216, .flt .f64 4846369599423283200, .flt .f64 4861130398305394688, .flt .f64 4876203697187506176, .flt .f64 4891288408196988160, .flt .f64 4906019910204099648, .flt .f64 4921056587992461136, .flt .f64 4936209963552724370]
def tabV : List Value := [.float .f64 4607182418800017408, .float .f64 4621819117588971520, .float .f64 4636737291354636288, .float .f64 4652007308841189376, .float .f64 4666723172467343360, .float .f64 4681608360884174848, .float .f64 4696837146684686336, .float .f64 4711630319722168320, .float .f64 4726483295884279808, .float .f64 4741671816366391296, .float .f64 4756540486875873280, .float .f64 4771362005757984768, .float .f64 4786511204640096256, .float .f64 4801453603149578240, .float .f64 4816244402031689728, .float .f64 4831355200913801216, .float .f64 4846369599423283200, .float .f64 4861130398305394688, .float .f64 4876203697187506176, .float .f64 4891288408196988160, .float .f64 4906019910204099648, .float .f64 4921056587992461136, .float .f64 4936209963552724370]
abbrev gH (m : Int) : HP := ⟨.i (.i (.i (.h))), (.node (some (some (.cells false [.int .i64 m]))) (.node none (.node (some (some (.cells false [.iface 96 (.ptr (.o (.i (.i (.h)))) 0)]))) .leaf (.node (some (some (.cells false [.slice (.i (.o (.i (.h)))) 0 23 .unk]))) .leaf .leaf)) (.node (some (some (.cells false [.bool true]))) .leaf .leaf)) (.node none (.node none .leaf (.node (some (some (.cells false tabF))) .leaf .leaf)) (.node (some (some (.cells false [.int .u64 (.ofNat 52), .int .u64 (.ofNat 11), .int .i64 (.negSucc 1022)]))) .leaf .leaf)))⟩
theorem gH_get {m : Int} {b : Pos} {k : Blk} (h : HP.get (gH m) b = some k) : (b = .h ∧ k = .cells false [.int .i64 m]) ∨ (b = .o (.i (.h)) ∧ k = .cells false [.bool true]) ∨ (b = .i (.i (.h)) ∧ k = .cells false [.int .u64 (.ofNat 52), .int .u64 (.ofNat 11), .int .i64 (.negSucc 1022)]) ∨ (b = .o (.o (.i (.h))) ∧ k = .cells false [.slice (.i (.o (.i (.h)))) 0 23 .unk]) ∨ (b = .i (.o (.i (.h))) ∧ k = .cells false tabF) ∨ (b = .o (.o (.h)) ∧ k = .cells false [.iface 96 (.ptr (.o (.i (.i (.h)))) 0)]) := by
  cases b with
  | h => exact .inl ⟨rfl, (Option.some.inj (show some (Blk.cells false [.int .i64 m]) = some k from h)).symm⟩
  | o b =>
    cases b with
    | h => exact absurd (show (none : Option Blk) = some k from h) (by simp)
    | o b =>
      cases b with
      | h => exact .inr (.inr (.inr (.inr (.inr (⟨rfl, (Option.some.inj (show some (Blk.cells false [.iface 96 (.ptr (.o (.i (.i (.h)))) 0)]) = some k from h)).symm⟩)))))
      | o b =>
        cases b <;> exact absurd (show (none : Option Blk) = some k from h) (by simp)
      | i b =>
        cases b with
        | h => exact .inr (.inr (.inr (.inl ⟨rfl, (Option.some.inj (show some (Blk.cells false [.slice (.i (.o (.i (.h)))) 0 23 .unk]) = some k from h)).symm⟩)))
        | o b =>
          cases b <;> exact absurd (show (none : Option Blk) = some k from h) (by simp)
        | i b =>
          cases b <;> exact absurd (show (none : Option Blk) = some k from h) (by simp)
    | i b =>
      cases b with
      | h => exact .inr (.inl ⟨rfl, (Option.some.inj (show some (Blk.cells false [.bool true]) = some k from h)).symm⟩)
      | o b =>
        cases b <;> exact absurd (show (none : Option Blk) = some k from h) (by simp)
      | i b =>
        cases b <;> exact absurd (show (none : Option Blk) = some k from h) (by simp)
  | i b =>
    cases b with
    | h => exact absurd (show (none : Option Blk) = some k from h) (by simp)
    | o b =>
      cases b with
      | h => exact absurd (show (none : Option Blk) = some k from h) (by simp)
      | o b =>
        cases b <;> exact absurd (show (none : Option Blk) = some k from h) (by simp)
      | i b =>
        cases b with
        | h => exact .inr (.inr (.inr (.inr (.inl ⟨rfl, (Option.some.inj (show some (Blk.cells false tabF) = some k from h)).symm⟩))))
        | o b =>
          cases b <;> exact absurd (show (none : Option Blk) = some k from h) (by simp)
        | i b =>
          cases b <;> exact absurd (show (none : Option Blk) = some k from h) (by simp)
    | i b =>
      cases b with
      | h => exact .inr (.inr (.inl ⟨rfl, (Option.some.inj (show some (Blk.cells false [.int .u64 (.ofNat 52), .int .u64 (.ofNat 11), .int .i64 (.negSucc 1022)]) = some k from h)).symm⟩))
      | o b =>
        cases b <;> exact absurd (show (none : Option Blk) = some k from h) (by simp)
      | i b =>
        cases b <;> exact absurd (show (none : Option Blk) = some k from h) (by simp)

/-- What the variables hold. -/
structure VL where
  a : Loc
  e : Loc
structure Vars (w : World) (m : Int) (lf : VL) : Prop where
  h1 : ∀ (i : Nat) x, [Value.int .i64 m][i]? = some x → w.cell? ⟨0, 0 + i, none⟩ = some x
  h6 : ∀ (i : Nat) x, [Value.bool true][i]? = some x → w.cell? ⟨5, 0 + i, none⟩ = some x
  h7 : ∀ (i : Nat) x, [Value.int .u64 52, Value.int .u64 11, Value.int .i64 (-1023)][i]? = some x → w.cell? ⟨6, 0 + i, none⟩ = some x
  h12 : ∃ cap, 23 ≤ cap ∧ w.cell? ⟨11, 0 + 0, none⟩ = some (.slice (some ⟨lf.a.blk, lf.a.off, none⟩) 23 cap)
  hr : ∀ (i : Nat) x, tabV[i]? = some x → w.cell? ⟨lf.a.blk, lf.a.off + i, none⟩ = some x
  hs : 12 ≤ w.heap.size
  hl : lf.a.blk < w.heap.size
  he : w.cell? ⟨3, 0 + 0, none⟩ = some (.iface 96 (.pointer (some ⟨lf.e.blk, lf.e.off + 0, none⟩)))
  hel : lf.e.blk < w.heap.size
abbrev gphiV (lf : VL) : Phi := fun b => bif Nat.ble b.toNat 12 then some ⟨b.toNat - 1, 0, 1⟩ else bif Nat.beq b.toNat 13 then some lf.a else bif Nat.beq b.toNat 14 then some lf.e else none
theorem gphiV_inv {lf : VL} {l : Loc} {b : Pos} (h : gphiV lf b = some l) : (b.toNat ≤ 12 ∧ l = ⟨b.toNat - 1, 0, 1⟩) ∨ (b.toNat = 13 ∧ l = lf.a) ∨ (b.toNat = 14 ∧ l = lf.e) := by
  have h : (bif Nat.ble b.toNat 12 then some (⟨b.toNat - 1, 0, 1⟩ : Loc) else bif Nat.beq b.toNat 13 then some lf.a else bif Nat.beq b.toNat 14 then some lf.e else none) = some l := h
  cases e : Nat.ble b.toNat 12 with
  | true => rw [e] at h; exact .inl ⟨Nat.le_of_ble_eq_true e, (Option.some.inj (show some _ = some l from h)).symm⟩
  | false =>
    rw [e] at h
    cases e2 : Nat.beq b.toNat 13 with
    | true => rw [e2] at h; exact .inr (.inl ⟨Nat.eq_of_beq_eq_true e2, (Option.some.inj (show some lf.a = some l from h)).symm⟩)
    | false =>
      rw [e2] at h
      cases e3 : Nat.beq b.toNat 14 with
      | true => rw [e3] at h; exact .inr (.inr ⟨Nat.eq_of_beq_eq_true e3, (Option.some.inj (show some lf.e = some l from h)).symm⟩)
      | false => rw [e3] at h; exact absurd (show (none : Option Loc) = some l from h) (by simp)
abbrev rhoV (m : Int) (lf : VL) (h1 : ngl = 12) : Rho where
  r := fun _ => 0
  lt := fun _ => Nat.zero_le _
  g0 := gH m
  gphi := gphiV lf
  gdom := fun b l h => by
    show b.toNat < 15
    rcases gphiV_inv h with ⟨h, _⟩ | ⟨h, _⟩ | ⟨h, _⟩ <;> omega
  gwf := fun b hb => by
    have hb : 15 ≤ b.toNat := hb
    cases hg : HP.get (gH m) b with
    | none => rfl
    | some k => rcases gH_get hg with ⟨rfl, _⟩ | ⟨rfl, _⟩ | ⟨rfl, _⟩ | ⟨rfl, _⟩ | ⟨rfl, _⟩ | ⟨rfl, _⟩ <;> exact absurd hb (by decide)
  gro := fun b k h => by rcases gH_get h with ⟨_, rfl⟩ | ⟨_, rfl⟩ | ⟨_, rfl⟩ | ⟨_, rfl⟩ | ⟨_, rfl⟩ | ⟨_, rfl⟩ <;> exact ⟨_, rfl⟩
  ggl := fun g hg => ⟨1, by
    show (bif Nat.ble (posOf g).toNat 12 then some (⟨(posOf g).toNat - 1, 0, 1⟩ : Loc) else _) = _
    rw [posOf_toNat, show Nat.ble (g + 1) 12 = true from by rw [Nat.ble_eq]; omega]
    rfl⟩
  ad := fun _ _ _ _ => rfl
theorem gb_v {m : Int} {lf : VL} {h1 : ngl = 12} {w : World} (v : Vars w m lf) : letI := rhoV m lf h1; GB w := by
  letI := rhoV m lf h1
  refine ⟨fun b l h => ?_, fun b l k h hk => ?_⟩
  · rcases gphiV_inv h with ⟨h, rfl⟩ | ⟨_, rfl⟩ | ⟨_, rfl⟩
    · have := v.hs; have := b.toNat_pos; show b.toNat - 1 < w.heap.size; omega
    · exact v.hl
    · exact v.hel
  · rcases gH_get (m := m) hk with ⟨rfl, rfl⟩ | ⟨rfl, rfl⟩ | ⟨rfl, rfl⟩ | ⟨rfl, rfl⟩ | ⟨rfl, rfl⟩ | ⟨rfl, rfl⟩
    · obtain rfl : (⟨0, 0, 1⟩ : Loc) = l := Option.some.inj (show some (⟨0, 0, 1⟩ : Loc) = some l from h)
      exact ⟨[Value.int .i64 m], (.cons _ _ _ _ (.int _ _ (InR.no (by decide))) .nil), .inl ⟨by have := v.hs; show 0 < w.heap.size; omega, v.h1⟩⟩
    · obtain rfl : (⟨5, 0, 1⟩ : Loc) = l := Option.some.inj (show some (⟨5, 0, 1⟩ : Loc) = some l from h)
      exact ⟨[Value.bool true], (.cons _ _ _ _ (.bool _) .nil), .inl ⟨by have := v.hs; show 5 < w.heap.size; omega, v.h6⟩⟩
    · obtain rfl : (⟨6, 0, 1⟩ : Loc) = l := Option.some.inj (show some (⟨6, 0, 1⟩ : Loc) = some l from h)
      exact ⟨[Value.int .u64 52, Value.int .u64 11, Value.int .i64 (-1023)], (.cons _ _ _ _ (.int _ _ (InR.no (by decide))) (.cons _ _ _ _ (.int _ _ (InR.no (by decide))) (.cons _ _ _ _ (.int _ _ (InR.no (by decide))) .nil))), .inl ⟨by have := v.hs; show 6 < w.heap.size; omega, v.h7⟩⟩
    · obtain rfl : (⟨11, 0, 1⟩ : Loc) = l := Option.some.inj (show some (⟨11, 0, 1⟩ : Loc) = some l from h)
      obtain ⟨cap, hc, hx⟩ := v.h12
      refine ⟨[.slice (some ⟨lf.a.blk, lf.a.off, none⟩) 23 cap], .cons _ _ _ _ (.slice _ 0 23 cap .unk lf.a rfl hc (fun _ e => by cases e) (fun _ e => by cases e)) .nil, .inl ⟨by have := v.hs; show 11 < w.heap.size; omega, fun i x hi => ?_⟩⟩
      cases i with
      | zero => simp at hi; subst hi; exact hx
      | succ i => simp at hi
    · obtain rfl : lf.a = l := Option.some.inj (show some lf.a = some l from h)
      exact ⟨tabV, (.cons _ _ _ _ (.flt _ _) (.cons _ _ _ _ (.flt _ _) (.cons _ _ _ _ (.flt _ _) (.cons _ _ _ _ (.flt _ _) (.cons _ _ _ _ (.flt _ _) (.cons _ _ _ _ (.flt _ _) (.cons _ _ _ _ (.flt _ _) (.cons _ _ _ _ (.flt _ _) (.cons _ _ _ _ (.flt _ _) (.cons _ _ _ _ (.flt _ _) (.cons _ _ _ _ (.flt _ _) (.cons _ _ _ _ (.flt _ _) (.cons _ _ _ _ (.flt _ _) (.cons _ _ _ _ (.flt _ _) (.cons _ _ _ _ (.flt _ _) (.cons _ _ _ _ (.flt _ _) (.cons _ _ _ _ (.flt _ _) (.cons _ _ _ _ (.flt _ _) (.cons _ _ _ _ (.flt _ _) (.cons _ _ _ _ (.flt _ _) (.cons _ _ _ _ (.flt _ _) (.cons _ _ _ _ (.flt _ _) (.cons _ _ _ _ (.flt _ _) .nil))))))))))))))))))))))), .inl ⟨v.hl, v.hr⟩⟩
    · obtain rfl : (⟨3, 0, 1⟩ : Loc) = l := Option.some.inj (show some (⟨3, 0, 1⟩ : Loc) = some l from h)
      refine ⟨[.iface 96 (.pointer (some ⟨lf.e.blk, lf.e.off + 0, none⟩))], .cons _ _ _ _ (.iface _ _ _ (.ptr _ 0 lf.e rfl)) .nil, .inl ⟨by have := v.hs; show 3 < w.heap.size; omega, fun i x hi => ?_⟩⟩
      cases i with
      | zero => simp at hi; subst hi; exact v.he
      | succ i => simp at hi
end
end Go.Proofs.YtlfhnopganplfaaGreatDoor.Ev
namespace Go.Proofs.YtlfhnopganplfaaGreatDoor.Va
open Go Go.RowKit Go.Proofs.YtlfhnopganplfaaGreatDoor.Ev
theorem laid_at {P : Program} {w : World} {n : String} {d : DataW Unit} : ∀ {l : List (String × DataW Unit)} {ps : List MemPlace}, DataW.LaidVars P w l ps → (n, d) ∈ l →
    ∃ g t cs fuel p, P.globalNamed n = some g ∧ (P.globals[g]?).map (·.type) = some t ∧ w.var? P n = some cs ∧ DataW.trod (fun _ => ()) P w 0 (fun _ => true) false fuel t cs.toList = some (d, p)
  | [], _, _, h => by simp at h
  | (n', d') :: r, ps, ⟨g, t, cs, fuel, p, q, h1, h2, h3, h4, h5, _⟩, h => by
    rcases List.mem_cons.1 h with e | h
    · obtain ⟨rfl, rfl⟩ := Prod.mk.inj e
      exact ⟨g, t, cs, fuel, p, h1, h2, h3, h4⟩
    · exact laid_at h5 h
theorem var_cell {P : Program} {w : World} {n : String} {g : Nat} {cs : Array Value} (hg : P.globalNamed n = some g) (hv : w.var? P n = some cs) : g < w.heap.size ∧ ∀ (i : Nat) x, cs.toList[i]? = some x → w.cell? ⟨g, 0 + i, none⟩ = some x := by
  unfold World.var? at hv
  rw [hg] at hv
  simp only [Option.bind_some] at hv
  split at hv
  · rename_i c t fz hh
    obtain rfl := Option.some.inj hv
    exact ⟨(Array.getElem?_eq_some_iff.1 hh).1, fun i x hx => by simp only [World.cell?, hh, Nat.zero_add]; simpa using hx⟩
  · simp at hv
variable {P : Program} {w : World} {sp : Nat → Bool} {held : Bool} {base fuel : Nat} {t : TypeId} {ls : List Value} {p : List MemPlace}
theorem leaf_bool {b : Bool} (ht : P.underlying t = some .bool) (h : DataW.trod (fun _ : TypeId × Value => ()) P w base sp held fuel t ls = some (.lit (.bool b), p)) : ls = [.bool b] := by
  cases fuel with
  | zero => simp [DataW.trod] at h
  | succ n => rcases ls with _ | ⟨v, _ | ⟨v2, ls⟩⟩ <;> (try cases v) <;> simp_all [DataW.trod]
theorem leaf_int {k k' : IntKind} {b : Int} (ht : P.underlying t = some (.int k)) (h : DataW.trod (fun _ : TypeId × Value => ()) P w base sp held fuel t ls = some (.lit (.int k' b), p)) : ls = [.int k b] := by
  cases fuel with
  | zero => simp [DataW.trod] at h
  | succ n =>
    rcases ls with _ | ⟨v, _ | ⟨v2, ls⟩⟩ <;> (try cases v) <;> simp [DataW.trod, ht] at h
    obtain ⟨⟨h1, h2⟩, ⟨h3, h4⟩, h5⟩ := h
    subst h1 h4; rfl
theorem leaf_float {k k' : FloatKind} {b : Nat} (ht : P.underlying t = some (.float k)) (h : DataW.trod (fun _ : TypeId × Value => ()) P w base sp held fuel t ls = some (.lit (.float k' b), p)) : ls = [.float k b] := by
  cases fuel with
  | zero => simp [DataW.trod] at h
  | succ n =>
    rcases ls with _ | ⟨v, _ | ⟨v2, ls⟩⟩ <;> (try cases v) <;> simp [DataW.trod, ht] at h
    obtain ⟨⟨h1, h2⟩, ⟨h3, h4⟩, h5⟩ := h
    subst h1 h4; rfl
end Go.Proofs.YtlfhnopganplfaaGreatDoor.Va
