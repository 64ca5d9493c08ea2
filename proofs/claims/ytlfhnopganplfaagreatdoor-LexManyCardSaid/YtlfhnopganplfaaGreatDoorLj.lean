/- LexMany: the lexer's loop over semicolons, in whatever memory. -/
import Derived.Test.YtlfhnopganplfaaGreatDoorLi
set_option linter.unusedVariables false
set_option linter.unusedSimpArgs false
set_option linter.unusedSectionVars false
set_option maxRecDepth 20000
namespace Go.Proofs.YtlfhnopganplfaaGreatDoor.Lx
open Go Go.Proofs.YtlfhnopganplfaaGreatDoor.Ev Go.Proofs.YtlfhnopganplfaaGreatDoor.Sx
noncomputable section
/- Memory. -/
theorem getN (h : HP) (k : Blk) (b : Pos) : HP.get (HP.newQ h k) b = if b = HP.nxQ h then some k else HP.get h b := by
  letI := rh
  rw [HP.newQ_eq, HP.nxQ_eq, HP.get_new]
theorem putQ_is (h : HP) (p : Pos) (x : Option Blk) : HP.putQ h p x = HP.put h p x := by cases h; rfl
theorem getP (h : HP) (p : Pos) (x : Option Blk) (b : Pos) : HP.get (HP.putQ h p x) b = if b = p then x else HP.get h b := by
  letI := rh
  rw [putQ_is, HP.get_put]
theorem nxN (h : HP) (k : Blk) : (HP.nxQ (HP.newQ h k)).toNat = (HP.nxQ h).toNat + 1 := by
  letI := rh
  rw [HP.newQ_eq, HP.nxQ_eq, HP.nxQ_eq, HP.nx_new, Pos.toNat_succ]
theorem nxP (h : HP) (p : Pos) (x : Option Blk) : HP.nxQ (HP.putQ h p x) = HP.nxQ h := by cases h; rfl
theorem neT {a b : Pos} (h : a.toNat ≠ b.toNat) : a ≠ b := fun e => h (by rw [e])
theorem cell_of' {h : HP} {p : Pos} {wr : Bool} {v : AV} (g : HP.get h p = some (.cells wr [v])) (F : AV → Res2) : cellC (.ptr p 0) h F = F v := by
  rw [cellC_eq]
  have e : cellV (.ptr p 0) h = ob (HP.get h p) fun k => match k with | .cells _ vs => nth vs 0 | _ => none := rfl
  rw [e, g]; rfl
theorem ldI_of {h : HP} {p : Pos} {wr : Bool} {z : Nat} (g : HP.get h p = some (.cells wr [iv z])) (F : Int → Res2) : ldI (.ptr p 0) h F = F (Int.ofNat z) := by
  show cellC (.ptr p 0) h (fun v => asI .i64 v F) = _
  rw [cell_of' g]; rfl
theorem ldS_of {h : HP} {p : Pos} {wr : Bool} {x z : AV} {s : LN} (g : HP.get h p = some (.cells wr [x, .str s, z])) (F : LN → Res2) : ldS (.ptr p (Nat.add 0 1)) h F = F s := by
  show cellC (.ptr p (Nat.add 0 1)) h (fun v => asS v F) = _
  rw [cellC_eq]
  have e : cellV (.ptr p (Nat.add 0 1)) h = ob (HP.get h p) fun k => match k with | .cells _ vs => nth vs 1 | _ => none := rfl
  rw [e, g]; rfl
theorem sto_of {h : HP} {p : Pos} {x v : AV} (g : HP.get h p = some (.cells true [x])) (hv : allOne [v] = true) (F : HP → Res2) : stoC (.ptr p 0) v h F = F (HP.putQ h p (some (.cells true [v]))) := by
  rw [stoC_eq]
  have e : storeV (.ptr p 0) v h = ob (HP.get h p) fun k => match k with | .cells true vs => bif allOne [v] then ob (putAt [v] 0 vs) fun r => some (HP.put h p (some (.cells true r))) else none | _ => none := rfl
  rw [e, g, putQ_is]
  show ob (bif allOne [v] then _ else none) F = _
  rw [hv]; rfl
theorem sts_of {h : HP} {p : Pos} {xs cs : List AV} {n : Nat} (g : HP.get h p = some (.cells true xs)) (hv : allOne cs = true) (hn : cs.length = n) (hp : putAt cs 0 xs = some cs) (F : HP → Res2) : stsC n (.ptr p 0) (.agg cs) h F = F (HP.putQ h p (some (.cells true cs))) := by
  rw [stsC_eq]
  have e : storesV n (.ptr p 0) (.agg cs) h = bif Nat.beq (lenL cs) n then ob (HP.get h p) fun k => match k with | .cells true vs => bif allOne cs then ob (putAt cs 0 vs) fun r => some (HP.put h p (some (.cells true r))) else none | _ => none else none := rfl
  rw [e, g, putQ_is, lenL_eq, hn, show Nat.beq n n = true by rw [Nat.beq_eq]]
  show ob (bif allOne cs then ob (putAt cs 0 xs) _ else none) F = _
  rw [hv, hp]; rfl
theorem cells_of {h : HP} {p : Pos} {wr : Bool} {x y z : AV} (g : HP.get h p = some (.cells wr [x, y, z])) (F : AV → Res2) : cellsC 3 (.ptr p 0) h F = F (.agg [x, y, z]) := by
  rw [cellsC_eq]
  have e : cellsV 3 (.ptr p 0) h = ob (HP.get h p) fun k => match k with | .cells _ vs => ob (takeN 3 (dropN 0 vs)) fun r => some (.agg r) | _ => none := rfl
  rw [e, g]; rfl
theorem allOne3 (a : Nat) (s : LN) (b : Nat) : allOne [iv a, .str s, iv b] = true := rfl
/-- An append of one token. -/
def Grows (h h' : HP) (out : AV) : Prop := (HP.nxQ h).toNat ≤ (HP.nxQ h').toNat ∧ ∀ b, b.toNat < (HP.nxQ h).toNat → (∀ c o n k, out = .slice c o n k → b ≠ c) → HP.get h' b = HP.get h b
def OutOk (h : HP) (i : Nat) (out : AV) (lo : Nat) : Prop := (i = 0 ∧ out = .nils) ∨ ∃ c vs, out = .slice c 0 i (.spare 3) ∧ HP.get h c = some (.cells true vs) ∧ vs.length = 3 * i ∧ lo < c.toNat ∧ c.toNat < (HP.nxQ h).toNat
theorem app_ok {h : HP} {i lo : Nat} {out : AV} {q : Pos} {x y z : AV} {k : Cap} {wr : Bool} (o : OutOk h i out lo) (hi : i ≤ 3000) (g : HP.get h q = some (.cells wr [x, y, z])) (ha : allOne [x, y, z] = true) (hlo : lo < (HP.nxQ h).toNat) :
    ∃ h' out', (∀ F : AV → HP → Res2, eff (.app 3 32 (.c out) (.c (.slice q 0 1 k))) h F = F out' h') ∧ Grows h h' out ∧ OutOk h' (i + 1) out' lo ∧ (∃ c, out' = .slice c 0 (i + 1) (.spare 3) ∧ (HP.nxQ h).toNat ≤ c.toNat) := by
  have e0 : ∀ F : AV → HP → Res2, eff (.app 3 32 (.c out) (.c (.slice q 0 1 k))) h F = obQ (appV 3 32 out 1 [x, y, z] h) fun r => F r.1 r.2 := by
    intro F
    show obQ (ob (ob (HP.get h q) fun b => match b with | .cells _ vs => ob (takeN (Nat.mul 1 3) (dropN 0 vs)) fun r => some (1, r) | _ => none) fun nc => appV 3 32 out nc.1 nc.2 h) (fun r => F r.1 r.2) = _
    rw [g]; rfl
  rcases o with ⟨rfl, rfl⟩ | ⟨c, vs, rfl, gc', hl, h1, h2⟩
  · refine ⟨HP.newQ h (.cells true [x, y, z]), .slice (HP.nxQ h) 0 1 (.spare 3), ?_, ⟨by rw [nxN]; omega, fun b hb _ => ?_⟩, .inr ⟨HP.nxQ h, [x, y, z], rfl, ?_, rfl, hlo, by rw [nxN]; omega⟩, ⟨HP.nxQ h, rfl, Nat.le_refl _⟩⟩
    · intro F; rw [e0, HP.newQ_eq, HP.nxQ_eq]; rfl
    · rw [getN, if_neg (neT (by omega))]
    · rw [getN, if_pos rfl]
  · have hne : c ≠ HP.nxQ h := neT (by omega)
    refine ⟨HP.newQ (HP.putQ h c none) (.cells true (vs ++ [x, y, z])), .slice (HP.nxQ h) 0 (i + 1) (.spare 3), ?_, ⟨by rw [nxN, nxP]; omega, fun b hb hc => ?_⟩, .inr ⟨HP.nxQ h, vs ++ [x, y, z], rfl, ?_, by simp [hl]; omega, hlo, by rw [nxN, nxP]; omega⟩, ⟨HP.nxQ h, rfl, Nat.le_refl _⟩⟩
    · intro F
      rw [e0]
      have e1 : appV 3 32 (.slice c 0 i (.spare 3)) 1 [x, y, z] h = ob (HP.get h c) fun k => match k with
          | .cells wr vs => bif wr && Nat.beq 3 3 then
              bif Nat.ble 1 3 && Nat.ble (Nat.add 0 (Nat.mul (Nat.add i 1) 3)) (lenL vs) then ob (storeAt c (Nat.add 0 (Nat.mul i 3)) [x, y, z] h) fun h => some (.slice c 0 (Nat.add i 1) (.spare 3), h)
              else bif Nat.ble (Nat.mul (Nat.add i 1) (Nat.add 32 1)) 1099511627776 && allOne [x, y, z] then ob (takeN (Nat.mul i 3) (dropN 0 vs)) fun old => some (.slice (HP.nx h) 0 (Nat.add i 1) (.spare 3), HP.new (HP.put h c none) (.cells true (cat old [x, y, z]))) else none
            else none
          | _ => none := rfl
      rw [e1, gc']
      show obQ (bif Nat.ble (Nat.add 0 (Nat.mul (Nat.add i 1) 3)) (lenL vs) then _ else bif Nat.ble (Nat.mul (Nat.add i 1) (Nat.add 32 1)) 1099511627776 && allOne [x, y, z] then ob (takeN (Nat.mul i 3) (dropN 0 vs)) _ else none) _ = _
      rw [lenL_eq, hl, ha, show Nat.ble (Nat.add 0 (Nat.mul (Nat.add i 1) 3)) (3 * i) = false from by
        cases q : Nat.ble (Nat.add 0 (Nat.mul (Nat.add i 1) 3)) (3 * i) with
        | false => rfl
        | true => have q := Nat.le_of_ble_eq_true q; exact absurd (show 0 + (i + 1) * 3 ≤ 3 * i from q) (by omega),
        show Nat.ble (Nat.mul (Nat.add i 1) (Nat.add 32 1)) 1099511627776 = true from by rw [Nat.ble_eq]; show (i + 1) * 33 ≤ 1099511627776; omega, show dropN 0 vs = vs from rfl, takeN_is (Nat.mul i 3) vs (by rw [hl]; show i * 3 ≤ 3 * i; omega),
        show vs.take (Nat.mul i 3) = vs from by rw [List.take_of_length_le (by rw [hl]; show 3 * i ≤ i * 3; omega)]]
      rw [HP.newQ_eq, HP.nxQ_eq, putQ_is, ← cat_eq]
      rfl
    · rw [getN, nxP, if_neg (neT (by omega)), getP, if_neg (hc c 0 i _ rfl)]
    · rw [getN, nxP, if_pos rfl]
end
end Go.Proofs.YtlfhnopganplfaaGreatDoor.Lx
