/- The first heap: internal/bytealg.MaxLen holds whatever number; strconv's optimize, float64info, float64pow10 what their text says. -/
import Derived.Test.YtmoabbfdehaenaaGreatDoorFz
import Derived.Test.YtmoabbfdehaenaaGreatDoorProg
import Derived.LaidMore
import Derived.OpenShut
set_option linter.unusedVariables false
set_option linter.unusedSimpArgs false
namespace Go.Proofs.YtmoabbfdehaenaaGreatDoor.Ev
open Go
noncomputable section
def tabN : List Nat := [4607182418800017408, 4621819117588971520, 4636737291354636288, 4652007308841189376, 4666723172467343360, 4681608360884174848, 4696837146684686336, 4711630319722168320, 4726483295884279808, 4741671816366391296, 4756540486875873280, 4771362005757984768, 4786511204640096256, 4801453603149578240, 4816244402031689728, 4831355200913801216, 4846369599423283200, 4861130398305394688, 4876203697187506176, 4891288408196988160, 4906019910204099648, 4921056587992461136, 4936209963552724370]
def tabF : List AV := [.flt .f64 4607182418800017408, .flt .f64 4621819117588971520, .flt .f64 4636737291354636288, .flt .f64 4652007308841189376, .flt .f64 4666723172467343360, .flt .f64 4681608360884174848, .flt .f64 4696837146684686336, .flt .f64 4711630319722168320, .flt .f64 4726483295884279808, .flt .f64 4741671816366391296, .flt .f64 4756540486875873280, .flt .f64 4771362005757984768, .flt .f64 4786511204640096256, .flt .f64 4801453603149578240, .flt .f64 4816244402031689728, .flt .f64 4831355200913801216, .flt .f64 4846369599423283200, .flt .f64 4861130398305394688, .flt .f64 4876203697187506176, .flt .f64 4891288408196988160, .flt .f64 4906019910204099648, .flt .f64 4921056587992461136, .flt .f64 4936209963552724370]
def tabV : List Value := [.float .f64 4607182418800017408, .float .f64 4621819117588971520, .float .f64 4636737291354636288, .float .f64 4652007308841189376, .float .f64 4666723172467343360, .float .f64 4681608360884174848, .float .f64 4696837146684686336, .float .f64 4711630319722168320, .float .f64 4726483295884279808, .float .f64 4741671816366391296, .float .f64 4756540486875873280, .float .f64 4771362005757984768, .float .f64 4786511204640096256, .float .f64 4801453603149578240, .float .f64 4816244402031689728, .float .f64 4831355200913801216, .float .f64 4846369599423283200, .float .f64 4861130398305394688, .float .f64 4876203697187506176, .float .f64 4891288408196988160, .float .f64 4906019910204099648, .float .f64 4921056587992461136, .float .f64 4936209963552724370]
def tbN : List Nat := [0, 1, 56, 2, 57, 49, 28, 3, 61, 58, 42, 50, 38, 29, 17, 4, 62, 47, 59, 36, 45, 43, 51, 22, 53, 39, 33, 30, 24, 18, 12, 5, 63, 55, 48, 27, 60, 41, 37, 16, 46, 35, 44, 21, 52, 32, 23, 11, 54, 26, 40, 15, 34, 20, 31, 10, 25, 14, 19, 9, 13, 8, 7, 6]
def tbA : List AV := [.int .u8 (.ofNat 0), .int .u8 (.ofNat 1), .int .u8 (.ofNat 56), .int .u8 (.ofNat 2), .int .u8 (.ofNat 57), .int .u8 (.ofNat 49), .int .u8 (.ofNat 28), .int .u8 (.ofNat 3), .int .u8 (.ofNat 61), .int .u8 (.ofNat 58), .int .u8 (.ofNat 42), .int .u8 (.ofNat 50), .int .u8 (.ofNat 38), .int .u8 (.ofNat 29), .int .u8 (.ofNat 17), .int .u8 (.ofNat 4), .int .u8 (.ofNat 62), .int .u8 (.ofNat 47), .int .u8 (.ofNat 59), .int .u8 (.ofNat 36), .int .u8 (.ofNat 45), .int .u8 (.ofNat 43), .int .u8 (.ofNat 51), .int .u8 (.ofNat 22), .int .u8 (.ofNat 53), .int .u8 (.ofNat 39), .int .u8 (.ofNat 33), .int .u8 (.ofNat 30), .int .u8 (.ofNat 24), .int .u8 (.ofNat 18), .int .u8 (.ofNat 12), .int .u8 (.ofNat 5), .int .u8 (.ofNat 63), .int .u8 (.ofNat 55), .int .u8 (.ofNat 48), .int .u8 (.ofNat 27), .int .u8 (.ofNat 60), .int .u8 (.ofNat 41), .int .u8 (.ofNat 37), .int .u8 (.ofNat 16), .int .u8 (.ofNat 46), .int .u8 (.ofNat 35), .int .u8 (.ofNat 44), .int .u8 (.ofNat 21), .int .u8 (.ofNat 52), .int .u8 (.ofNat 32), .int .u8 (.ofNat 23), .int .u8 (.ofNat 11), .int .u8 (.ofNat 54), .int .u8 (.ofNat 26), .int .u8 (.ofNat 40), .int .u8 (.ofNat 15), .int .u8 (.ofNat 34), .int .u8 (.ofNat 20), .int .u8 (.ofNat 31), .int .u8 (.ofNat 10), .int .u8 (.ofNat 25), .int .u8 (.ofNat 14), .int .u8 (.ofNat 19), .int .u8 (.ofNat 9), .int .u8 (.ofNat 13), .int .u8 (.ofNat 8), .int .u8 (.ofNat 7), .int .u8 (.ofNat 6)]
def tbV : List Value := [.int .u8 (.ofNat 0), .int .u8 (.ofNat 1), .int .u8 (.ofNat 56), .int .u8 (.ofNat 2), .int .u8 (.ofNat 57), .int .u8 (.ofNat 49), .int .u8 (.ofNat 28), .int .u8 (.ofNat 3), .int .u8 (.ofNat 61), .int .u8 (.ofNat 58), .int .u8 (.ofNat 42), .int .u8 (.ofNat 50), .int .u8 (.ofNat 38), .int .u8 (.ofNat 29), .int .u8 (.ofNat 17), .int .u8 (.ofNat 4), .int .u8 (.ofNat 62), .int .u8 (.ofNat 47), .int .u8 (.ofNat 59), .int .u8 (.ofNat 36), .int .u8 (.ofNat 45), .int .u8 (.ofNat 43), .int .u8 (.ofNat 51), .int .u8 (.ofNat 22), .int .u8 (.ofNat 53), .int .u8 (.ofNat 39), .int .u8 (.ofNat 33), .int .u8 (.ofNat 30), .int .u8 (.ofNat 24), .int .u8 (.ofNat 18), .int .u8 (.ofNat 12), .int .u8 (.ofNat 5), .int .u8 (.ofNat 63), .int .u8 (.ofNat 55), .int .u8 (.ofNat 48), .int .u8 (.ofNat 27), .int .u8 (.ofNat 60), .int .u8 (.ofNat 41), .int .u8 (.ofNat 37), .int .u8 (.ofNat 16), .int .u8 (.ofNat 46), .int .u8 (.ofNat 35), .int .u8 (.ofNat 44), .int .u8 (.ofNat 21), .int .u8 (.ofNat 52), .int .u8 (.ofNat 32), .int .u8 (.ofNat 23), .int .u8 (.ofNat 11), .int .u8 (.ofNat 54), .int .u8 (.ofNat 26), .int .u8 (.ofNat 40), .int .u8 (.ofNat 15), .int .u8 (.ofNat 34), .int .u8 (.ofNat 20), .int .u8 (.ofNat 31), .int .u8 (.ofNat 10), .int .u8 (.ofNat 25), .int .u8 (.ofNat 14), .int .u8 (.ofNat 19), .int .u8 (.ofNat 9), .int .u8 (.ofNat 13), .int .u8 (.ofNat 8), .int .u8 (.ofNat 7), .int .u8 (.ofNat 6)]
abbrev gH (m : Int) : HP := ⟨.i (.o (.o (.o (.h)))), (.node none (.node none (.node none (.node (some (some (.cells false [.int .u64 (.ofNat 52), .int .u64 (.ofNat 11), .int .i64 (.negSucc 1022)]))) (.node (some (some (.cells false tabF))) .leaf .leaf) .leaf) .leaf) (.node none (.node (some (some (.cells false tbA))) .leaf .leaf) .leaf)) (.node none .leaf (.node (some (some (.cells false [.bool true]))) .leaf (.node (some (some (.cells false [.slice (.o (.o (.o (.o (.h))))) 0 23 .unk]))) .leaf .leaf))))⟩
theorem gH_get {m : Int} {b : Pos} {k : Blk} (h : HP.get (gH m) b = some k) : (b = .i (.i (.h)) ∧ k = .cells false [.bool true]) ∨ (b = .o (.o (.o (.h))) ∧ k = .cells false [.int .u64 (.ofNat 52), .int .u64 (.ofNat 11), .int .i64 (.negSucc 1022)]) ∨ (b = .o (.i (.o (.h))) ∧ k = .cells false tbA) ∨ (b = .i (.i (.i (.h))) ∧ k = .cells false [.slice (.o (.o (.o (.o (.h))))) 0 23 .unk]) ∨ (b = .o (.o (.o (.o (.h)))) ∧ k = .cells false tabF) := by
  cases b with
  | h => exact absurd (show (none : Option Blk) = some k from h) (by simp)
  | o b =>
    cases b with
    | h => exact absurd (show (none : Option Blk) = some k from h) (by simp)
    | o b =>
      cases b with
      | h => exact absurd (show (none : Option Blk) = some k from h) (by simp)
      | o b =>
        cases b with
        | h => exact .inr (.inl ⟨rfl, (Option.some.inj (show some (Blk.cells false [.int .u64 (.ofNat 52), .int .u64 (.ofNat 11), .int .i64 (.negSucc 1022)]) = some k from h)).symm⟩)
        | o b =>
          cases b with
          | h => exact .inr (.inr (.inr (.inr (⟨rfl, (Option.some.inj (show some (Blk.cells false tabF) = some k from h)).symm⟩))))
          | o b =>
            cases b <;> exact absurd (show (none : Option Blk) = some k from h) (by simp)
          | i b =>
            cases b <;> exact absurd (show (none : Option Blk) = some k from h) (by simp)
        | i b =>
          cases b <;> exact absurd (show (none : Option Blk) = some k from h) (by simp)
      | i b =>
        cases b <;> exact absurd (show (none : Option Blk) = some k from h) (by simp)
    | i b =>
      cases b with
      | h => exact absurd (show (none : Option Blk) = some k from h) (by simp)
      | o b =>
        cases b with
        | h => exact .inr (.inr (.inl ⟨rfl, (Option.some.inj (show some (Blk.cells false tbA) = some k from h)).symm⟩))
        | o b =>
          cases b <;> exact absurd (show (none : Option Blk) = some k from h) (by simp)
        | i b =>
          cases b <;> exact absurd (show (none : Option Blk) = some k from h) (by simp)
      | i b =>
        cases b <;> exact absurd (show (none : Option Blk) = some k from h) (by simp)
  | i b =>
    cases b with
    | h => exact absurd (show (none : Option Blk) = some k from h) (by simp)
    | o b =>
      cases b <;> exact absurd (show (none : Option Blk) = some k from h) (by simp)
    | i b =>
      cases b with
      | h => exact .inl ⟨rfl, (Option.some.inj (show some (Blk.cells false [.bool true]) = some k from h)).symm⟩
      | o b =>
        cases b <;> exact absurd (show (none : Option Blk) = some k from h) (by simp)
      | i b =>
        cases b with
        | h => exact .inr (.inr (.inr (.inl ⟨rfl, (Option.some.inj (show some (Blk.cells false [.slice (.o (.o (.o (.o (.h))))) 0 23 .unk]) = some k from h)).symm⟩)))
        | o b =>
          cases b <;> exact absurd (show (none : Option Blk) = some k from h) (by simp)
        | i b =>
          cases b <;> exact absurd (show (none : Option Blk) = some k from h) (by simp)

/-- What the variables hold. -/
structure Vars (w : World) (m : Int) (lf : Loc) : Prop where
  h7 : ∀ (i : Nat) x, [Value.bool true][i]? = some x → w.cell? ⟨6, 0 + i, none⟩ = some x
  h8 : ∀ (i : Nat) x, [Value.int .u64 52, Value.int .u64 11, Value.int .i64 (-1023)][i]? = some x → w.cell? ⟨7, 0 + i, none⟩ = some x
  h10 : ∀ (i : Nat) x, tbV[i]? = some x → w.cell? ⟨9, 0 + i, none⟩ = some x
  h15 : ∃ cap, 23 ≤ cap ∧ w.cell? ⟨14, 0 + 0, none⟩ = some (.slice (some ⟨lf.blk, lf.off, none⟩) 23 cap)
  hr : ∀ (i : Nat) x, tabV[i]? = some x → w.cell? ⟨lf.blk, lf.off + i, none⟩ = some x
  hs : 15 ≤ w.heap.size
  hl : lf.blk < w.heap.size
abbrev gphiV (lf : Loc) : Phi := fun b => bif Nat.ble b.toNat 15 then some ⟨b.toNat - 1, 0, 1⟩ else bif Nat.beq b.toNat 16 then some lf else none
theorem gphiV_inv {lf l : Loc} {b : Pos} (h : gphiV lf b = some l) : (b.toNat ≤ 15 ∧ l = ⟨b.toNat - 1, 0, 1⟩) ∨ (b.toNat = 16 ∧ l = lf) := by
  have h : (bif Nat.ble b.toNat 15 then some (⟨b.toNat - 1, 0, 1⟩ : Loc) else bif Nat.beq b.toNat 16 then some lf else none) = some l := h
  cases e : Nat.ble b.toNat 15 with
  | true => rw [e] at h; exact .inl ⟨Nat.le_of_ble_eq_true e, (Option.some.inj (show some _ = some l from h)).symm⟩
  | false =>
    rw [e] at h
    cases e2 : Nat.beq b.toNat 16 with
    | true => rw [e2] at h; exact .inr ⟨Nat.eq_of_beq_eq_true e2, (Option.some.inj (show some lf = some l from h)).symm⟩
    | false => rw [e2] at h; exact absurd (show (none : Option Loc) = some l from h) (by simp)
abbrev rhoV (m : Int) (lf : Loc) (h1 : ngl = 15) : Rho where
  r := fun _ => 0
  lt := fun _ => Nat.zero_le _
  g0 := gH m
  gphi := gphiV lf
  gdom := fun b l h => by
    show b.toNat < 17
    rcases gphiV_inv h with ⟨h, _⟩ | ⟨h, _⟩ <;> omega
  gwf := fun b hb => by
    have hb : 17 ≤ b.toNat := hb
    cases hg : HP.get (gH m) b with
    | none => rfl
    | some k => rcases gH_get hg with ⟨rfl, _⟩ | ⟨rfl, _⟩ | ⟨rfl, _⟩ | ⟨rfl, _⟩ | ⟨rfl, _⟩ <;> exact absurd hb (by decide)
  gro := fun b k h => by rcases gH_get h with ⟨_, rfl⟩ | ⟨_, rfl⟩ | ⟨_, rfl⟩ | ⟨_, rfl⟩ | ⟨_, rfl⟩ <;> exact ⟨_, rfl⟩
  ggl := fun g hg => ⟨1, by
    show (bif Nat.ble (posOf g).toNat 15 then some (⟨(posOf g).toNat - 1, 0, 1⟩ : Loc) else _) = _
    rw [posOf_toNat, show Nat.ble (g + 1) 15 = true from by rw [Nat.ble_eq]; omega]
    rfl⟩
  ad := fun _ _ _ _ => rfl
theorem gb_v {m : Int} {lf : Loc} {h1 : ngl = 15} {w : World} (v : Vars w m lf) : letI := rhoV m lf h1; GB w := by
  letI := rhoV m lf h1
  refine ⟨fun b l h => ?_, fun b l k h hk => ?_⟩
  · rcases gphiV_inv h with ⟨h, rfl⟩ | ⟨_, rfl⟩
    · have := v.hs; have := b.toNat_pos; show b.toNat - 1 < w.heap.size; omega
    · exact v.hl
  · rcases gH_get (m := m) hk with ⟨rfl, rfl⟩ | ⟨rfl, rfl⟩ | ⟨rfl, rfl⟩ | ⟨rfl, rfl⟩ | ⟨rfl, rfl⟩
    · obtain rfl : (⟨6, 0, 1⟩ : Loc) = l := Option.some.inj (show some (⟨6, 0, 1⟩ : Loc) = some l from h)
      exact ⟨[Value.bool true], (.cons _ _ _ _ (.bool _) .nil), .inl ⟨by have := v.hs; show 6 < w.heap.size; omega, v.h7⟩⟩
    · obtain rfl : (⟨7, 0, 1⟩ : Loc) = l := Option.some.inj (show some (⟨7, 0, 1⟩ : Loc) = some l from h)
      exact ⟨[Value.int .u64 52, Value.int .u64 11, Value.int .i64 (-1023)], (.cons _ _ _ _ (.int _ _ (InR.no (by decide))) (.cons _ _ _ _ (.int _ _ (InR.no (by decide))) (.cons _ _ _ _ (.int _ _ (InR.no (by decide))) .nil))), .inl ⟨by have := v.hs; show 7 < w.heap.size; omega, v.h8⟩⟩
    · obtain rfl : (⟨9, 0, 1⟩ : Loc) = l := Option.some.inj (show some (⟨9, 0, 1⟩ : Loc) = some l from h)
      exact ⟨tbV, (.cons _ _ _ _ (.int _ _ (InR.no (by decide))) (.cons _ _ _ _ (.int _ _ (InR.no (by decide))) (.cons _ _ _ _ (.int _ _ (InR.no (by decide))) (.cons _ _ _ _ (.int _ _ (InR.no (by decide))) (.cons _ _ _ _ (.int _ _ (InR.no (by decide))) (.cons _ _ _ _ (.int _ _ (InR.no (by decide))) (.cons _ _ _ _ (.int _ _ (InR.no (by decide))) (.cons _ _ _ _ (.int _ _ (InR.no (by decide))) (.cons _ _ _ _ (.int _ _ (InR.no (by decide))) (.cons _ _ _ _ (.int _ _ (InR.no (by decide))) (.cons _ _ _ _ (.int _ _ (InR.no (by decide))) (.cons _ _ _ _ (.int _ _ (InR.no (by decide))) (.cons _ _ _ _ (.int _ _ (InR.no (by decide))) (.cons _ _ _ _ (.int _ _ (InR.no (by decide))) (.cons _ _ _ _ (.int _ _ (InR.no (by decide))) (.cons _ _ _ _ (.int _ _ (InR.no (by decide))) (.cons _ _ _ _ (.int _ _ (InR.no (by decide))) (.cons _ _ _ _ (.int _ _ (InR.no (by decide))) (.cons _ _ _ _ (.int _ _ (InR.no (by decide))) (.cons _ _ _ _ (.int _ _ (InR.no (by decide))) (.cons _ _ _ _ (.int _ _ (InR.no (by decide))) (.cons _ _ _ _ (.int _ _ (InR.no (by decide))) (.cons _ _ _ _ (.int _ _ (InR.no (by decide))) (.cons _ _ _ _ (.int _ _ (InR.no (by decide))) (.cons _ _ _ _ (.int _ _ (InR.no (by decide))) (.cons _ _ _ _ (.int _ _ (InR.no (by decide))) (.cons _ _ _ _ (.int _ _ (InR.no (by decide))) (.cons _ _ _ _ (.int _ _ (InR.no (by decide))) (.cons _ _ _ _ (.int _ _ (InR.no (by decide))) (.cons _ _ _ _ (.int _ _ (InR.no (by decide))) (.cons _ _ _ _ (.int _ _ (InR.no (by decide))) (.cons _ _ _ _ (.int _ _ (InR.no (by decide))) (.cons _ _ _ _ (.int _ _ (InR.no (by decide))) (.cons _ _ _ _ (.int _ _ (InR.no (by decide))) (.cons _ _ _ _ (.int _ _ (InR.no (by decide))) (.cons _ _ _ _ (.int _ _ (InR.no (by decide))) (.cons _ _ _ _ (.int _ _ (InR.no (by decide))) (.cons _ _ _ _ (.int _ _ (InR.no (by decide))) (.cons _ _ _ _ (.int _ _ (InR.no (by decide))) (.cons _ _ _ _ (.int _ _ (InR.no (by decide))) (.cons _ _ _ _ (.int _ _ (InR.no (by decide))) (.cons _ _ _ _ (.int _ _ (InR.no (by decide))) (.cons _ _ _ _ (.int _ _ (InR.no (by decide))) (.cons _ _ _ _ (.int _ _ (InR.no (by decide))) (.cons _ _ _ _ (.int _ _ (InR.no (by decide))) (.cons _ _ _ _ (.int _ _ (InR.no (by decide))) (.cons _ _ _ _ (.int _ _ (InR.no (by decide))) (.cons _ _ _ _ (.int _ _ (InR.no (by decide))) (.cons _ _ _ _ (.int _ _ (InR.no (by decide))) (.cons _ _ _ _ (.int _ _ (InR.no (by decide))) (.cons _ _ _ _ (.int _ _ (InR.no (by decide))) (.cons _ _ _ _ (.int _ _ (InR.no (by decide))) (.cons _ _ _ _ (.int _ _ (InR.no (by decide))) (.cons _ _ _ _ (.int _ _ (InR.no (by decide))) (.cons _ _ _ _ (.int _ _ (InR.no (by decide))) (.cons _ _ _ _ (.int _ _ (InR.no (by decide))) (.cons _ _ _ _ (.int _ _ (InR.no (by decide))) (.cons _ _ _ _ (.int _ _ (InR.no (by decide))) (.cons _ _ _ _ (.int _ _ (InR.no (by decide))) (.cons _ _ _ _ (.int _ _ (InR.no (by decide))) (.cons _ _ _ _ (.int _ _ (InR.no (by decide))) (.cons _ _ _ _ (.int _ _ (InR.no (by decide))) (.cons _ _ _ _ (.int _ _ (InR.no (by decide))) (.cons _ _ _ _ (.int _ _ (InR.no (by decide))) .nil)))))))))))))))))))))))))))))))))))))))))))))))))))))))))))))))), .inl ⟨by have := v.hs; show 9 < w.heap.size; omega, v.h10⟩⟩
    · obtain rfl : (⟨14, 0, 1⟩ : Loc) = l := Option.some.inj (show some (⟨14, 0, 1⟩ : Loc) = some l from h)
      obtain ⟨cap, hc, hx⟩ := v.h15
      refine ⟨[.slice (some ⟨lf.blk, lf.off, none⟩) 23 cap], .cons _ _ _ _ (.slice _ 0 23 cap .unk lf rfl hc (fun _ e => by cases e) (fun _ e => by cases e)) .nil, .inl ⟨by have := v.hs; show 14 < w.heap.size; omega, fun i x hi => ?_⟩⟩
      cases i with
      | zero => simp at hi; subst hi; exact hx
      | succ i => simp at hi
    · obtain rfl : lf = l := Option.some.inj (show some lf = some l from h)
      exact ⟨tabV, (.cons _ _ _ _ (.flt _ _) (.cons _ _ _ _ (.flt _ _) (.cons _ _ _ _ (.flt _ _) (.cons _ _ _ _ (.flt _ _) (.cons _ _ _ _ (.flt _ _) (.cons _ _ _ _ (.flt _ _) (.cons _ _ _ _ (.flt _ _) (.cons _ _ _ _ (.flt _ _) (.cons _ _ _ _ (.flt _ _) (.cons _ _ _ _ (.flt _ _) (.cons _ _ _ _ (.flt _ _) (.cons _ _ _ _ (.flt _ _) (.cons _ _ _ _ (.flt _ _) (.cons _ _ _ _ (.flt _ _) (.cons _ _ _ _ (.flt _ _) (.cons _ _ _ _ (.flt _ _) (.cons _ _ _ _ (.flt _ _) (.cons _ _ _ _ (.flt _ _) (.cons _ _ _ _ (.flt _ _) (.cons _ _ _ _ (.flt _ _) (.cons _ _ _ _ (.flt _ _) (.cons _ _ _ _ (.flt _ _) (.cons _ _ _ _ (.flt _ _) .nil))))))))))))))))))))))), .inl ⟨v.hl, v.hr⟩⟩
end
end Go.Proofs.YtmoabbfdehaenaaGreatDoor.Ev
namespace Go.Proofs.YtmoabbfdehaenaaGreatDoor.Va
open Go Go.RowKit Go.Proofs.YtmoabbfdehaenaaGreatDoor.Ev
theorem laid_at {P : Program} {w : World} {n : String} {d : DataW Unit} : ∀ {l : List (String × DataW Unit)} {ps : List MemPlace}, DataW.LaidVars P w l ps → (n, d) ∈ l →
    ∃ g t cs fuel p, P.globalNamed n = some g ∧ (P.globals[g]?).map (·.type) = some t ∧ w.var? P n = some cs ∧ DataW.trod (fun _ => ()) P w 0 (fun _ => true) false fuel t cs.toList = some (d, p)
  | [], _, _, h => by simp at h
  | (n', d') :: r, ps, ⟨g, t, cs, fuel, p, q, h1, h2, h3, h4, h5, _⟩, h => by
    rcases List.mem_cons.1 h with e | h
    · obtain ⟨rfl, rfl⟩ := Prod.mk.inj e
      exact ⟨g, t, cs, fuel, p, h1, h2, h3, h4⟩
    · exact laid_at h5 h
theorem var_cell {P : Program} {w : World} {n : String} {g : Nat} {cs : Array Value} (hg : P.globalNamed n = some g) (hv : w.var? P n = some cs) : g < w.heap.size ∧ ∀ (i : Nat) x, cs.toList[i]? = some x → w.cell? ⟨g, 0 + i, none⟩ = some x := by
  unfold World.var? at hv
  rw [hg] at hv
  simp only [Option.bind_some] at hv
  split at hv
  · rename_i c t fz hh
    obtain rfl := Option.some.inj hv
    exact ⟨(Array.getElem?_eq_some_iff.1 hh).1, fun i x hx => by simp only [World.cell?, hh, Nat.zero_add]; simpa using hx⟩
  · simp at hv
variable {P : Program} {w : World} {sp : Nat → Bool} {held : Bool} {base fuel : Nat} {t : TypeId} {ls : List Value} {p : List MemPlace}
theorem leaf_bool {b : Bool} (ht : P.underlying t = some .bool) (h : DataW.trod (fun _ : TypeId × Value => ()) P w base sp held fuel t ls = some (.lit (.bool b), p)) : ls = [.bool b] := by
  cases fuel with
  | zero => simp [DataW.trod] at h
  | succ n => rcases ls with _ | ⟨v, _ | ⟨v2, ls⟩⟩ <;> (try cases v) <;> simp_all [DataW.trod]
theorem leaf_int {k k' : IntKind} {b : Int} (ht : P.underlying t = some (.int k)) (h : DataW.trod (fun _ : TypeId × Value => ()) P w base sp held fuel t ls = some (.lit (.int k' b), p)) : ls = [.int k b] := by
  cases fuel with
  | zero => simp [DataW.trod] at h
  | succ n =>
    rcases ls with _ | ⟨v, _ | ⟨v2, ls⟩⟩ <;> (try cases v) <;> simp [DataW.trod, ht] at h
    obtain ⟨⟨h1, h2⟩, ⟨h3, h4⟩, h5⟩ := h
    subst h1 h4; rfl
theorem leaf_float {k k' : FloatKind} {b : Nat} (ht : P.underlying t = some (.float k)) (h : DataW.trod (fun _ : TypeId × Value => ()) P w base sp held fuel t ls = some (.lit (.float k' b), p)) : ls = [.float k b] := by
  cases fuel with
  | zero => simp [DataW.trod] at h
  | succ n =>
    rcases ls with _ | ⟨v, _ | ⟨v2, ls⟩⟩ <;> (try cases v) <;> simp [DataW.trod, ht] at h
    obtain ⟨⟨h1, h2⟩, ⟨h3, h4⟩, h5⟩ := h
    subst h1 h4; rfl
end Go.Proofs.YtmoabbfdehaenaaGreatDoor.Va
