/- FoldWords: the operations of words as functions with known answers. -/
import Derived.Test.YtakcpnpeadkfpaaGreatDoorWd
import Derived.Test.YtakcpnpeadkfpaaGreatDoorGu
import Derived.Test.YtakcpnpeadkfpaaGreatDoorPr
set_option linter.unusedVariables false
set_option linter.unusedSimpArgs false
set_option linter.unusedSectionVars false
namespace Go.Proofs.YtakcpnpeadkfpaaGreatDoor.Lg
open Go Go.Proofs.YtakcpnpeadkfpaaGreatDoor.Ev Go.Proofs.YtakcpnpeadkfpaaGreatDoor.Sx
noncomputable section
abbrev wv (n : Nat) : AV := AV.int .u32 (Int.ofNat n)
abbrev iv (n : Nat) : AV := AV.int .i64 (Int.ofNat n)
abbrev uv (n : Nat) : AV := AV.int .u64 (Int.ofNat n)
theorem sub_nat {a b : Nat} (h : b ≤ a) : Int.ofNat a - Int.ofNat b = Int.ofNat (a - b) := by
  show (a : Int) - (b : Int) = ((a - b : Nat) : Int); omega
mutual
theorem ren_no : ∀ (a : AV) {v : AV}, ren (kIx [] .h) a = some v → v = a
 | .ptr b o, v, e => by simp [ren, kIx] at e
 | .slice b o n k, v, e => by simp [ren, kIx] at e
 | .map b, v, e => by simp [ren, kIx] at e
 | .fn f a c, v, e => by
  simp only [ren] at e
  split at e
  ·rename_i x y hx hy
   obtain rfl := Option.some.inj e
   rw [rens_no a hx, rens_no c hy]
  ·simp at e
 | .iface t a, v, e => by
  simp only [ren] at e
  split at e
  ·rename_i x hx
   obtain rfl := Option.some.inj e
   rw [ren_no a hx]
  ·simp at e
 | .agg vs, v, e => by
  simp only [ren] at e
  split at e
  ·rename_i x hx
   obtain rfl := Option.some.inj e
   rw [rens_no vs hx]
  ·simp at e
 | .tup vs, v, e => by
  simp only [ren] at e
  split at e
  ·rename_i x hx
   obtain rfl := Option.some.inj e
   rw [rens_no vs hx]
  ·simp at e
 | .bool b, v, e => (Option.some.inj e).symm
 | .int k n, v, e => (Option.some.inj e).symm
 | .flt k n, v, e => (Option.some.inj e).symm
 | .nan k, v, e => (Option.some.inj e).symm
 | .str s, v, e => (Option.some.inj e).symm
 | .nilp, v, e => (Option.some.inj e).symm
 | .nils, v, e => (Option.some.inj e).symm
 | .nilm, v, e => (Option.some.inj e).symm
 | .nilf, v, e => (Option.some.inj e).symm
 | .nili, v, e => (Option.some.inj e).symm
theorem rens_no : ∀ (l : List AV) {v : List AV}, rens (kIx [] .h) l = some v → v = l
 | [], v, e => (Option.some.inj e).symm
 | a :: l, v, e => by
  simp only [rens] at e
  split at e
  ·rename_i x y hx hy
   obtain rfl := Option.some.inj e
   rw [ren_no a hx, rens_no l hy]
  ·simp at e
end
theorem ret_of_gc {r : Res2} {v : AV} (e : gc [] r = some (v, [])) : ∃ h2, r = some (.ret v h2, .no) := by
 unfold gc at e
 split at e
 ·rename_i v0 h2
  split at e
  ·rename_i x y hx hy
   have e := Option.some.inj e
   obtain rfl := (Prod.mk.inj e).1
   rw [ren_no v0 hx]
   exact ⟨h2, rfl⟩
  ·simp at e
 ·simp at e
def bW (b : Bool) : Nat := Bool.rec 0 1 b
theorem wr_bd (x : Int) : ∃ n, n ≤ 4294967295 ∧ wrapF .u32 x = Int.ofNat n := by
 letI := rhoV 0 ⟨0, 0, 0⟩ rfl
 rw [wu32]
 refine ⟨(x % 4294967296).toNat, by omega, ?_⟩
 show _ = (((x % 4294967296).toNat : Nat) : Int); omega
def opsL : List Nat := [1, 2, 3, 6, 8, 9, 10, 11, 14, 16]
theorem do_bd (k a b : Nat) (hk : k ∈ opsL) (ha : a < 4294967296) (hb : b < 4294967296) : ∃ n, n ≤ 4294967295 ∧ doW k a b = Int.ofNat n := by
 letI := rhoV 0 ⟨0, 0, 0⟩ rfl
 simp only [opsL, List.mem_cons, List.not_mem_nil, or_false] at hk
 rcases hk with rfl | rfl | rfl | rfl | rfl | rfl | rfl | rfl | rfl | rfl
 ·rw [← c1 ha hb, wrQ_eq]; exact wr_bd _
 ·rw [← c2 ha hb, wrQ_eq]; exact wr_bd _
 ·rw [← c3 ha, ← wrapF_eq]; exact wr_bd _
 ·rw [← cb 1 6 (by omega) ha hb]; exact wr_bd _
 ·rw [← c8 ha]; exact wr_bd _
 ·rw [← cb 2 9 (by omega) ha hb]; exact wr_bd _
 ·rw [← cb 3 10 (by omega) ha hb]; exact wr_bd _
 ·rw [← c11 ha hb]; exact wr_bd _
 ·by_cases h0 : b = 0
  ·subst h0; exact ⟨4294967295, by omega, (c0 a).1⟩
  ·rw [← c14 ha hb h0]; exact wr_bd _
 ·by_cases h0 : b = 0
  ·subst h0; exact ⟨a, by omega, (c0 a).2⟩
  ·rw [← c16 ha hb h0]; exact wr_bd _
def dwN (k a b : Nat) : Nat := (doW k a b).toNat
theorem dw_is {k a b : Nat} (hk : k ∈ opsL) (ha : a < 4294967296) (hb : b < 4294967296) : doW k a b = Int.ofNat (dwN k a b) := by
 obtain ⟨n, _, e⟩ := do_bd k a b hk ha hb
 unfold dwN; rw [e]; rfl
def memO (k : Nat) : Bool := Nat.beq k 1 || (Nat.beq k 2 || (Nat.beq k 3 || (Nat.beq k 6 || (Nat.beq k 8 || (Nat.beq k 9 || (Nat.beq k 10 || (Nat.beq k 11 || (Nat.beq k 14 || Nat.beq k 16))))))))
theorem memO_mem {k : Nat} (h : memO k = true) : k ∈ opsL := by
 unfold memO at h
 simp only [Bool.or_eq_true, Nat.beq_eq] at h
 unfold opsL
 simp only [List.mem_cons, List.not_mem_nil, or_false]
 exact h
def sgW (a : Nat) : Int := sgn (Int.ofNat a)
theorem sg_prog {a : Nat} (ha : a < 4294967296) : wrapF .i64 (wrapF .i32 (Int.ofNat a)) = sgW a := by
 letI := rhoV 0 ⟨0, 0, 0⟩ rfl
 unfold sgW
 have h := sgn_eq a ha
 rw [← sgn_i32 a ha, wi64]
 ·rw [h]; split <;> omega
 ·rw [h]; split <;> omega
theorem pr_of32 [Rho] {P : Program} {t : ST} (hP : P.follows .mixedOrders = true) (ht : ST.Ok P t) {n k : Nat} {p : List AV → HP → Option (AV × HP)} (hc : Callable P k) (hp : ∀ xs h r, (∀ n : Nat, AV.int .u32 (.ofNat n) ∈ xs → n ≤ 4294967295) → p xs h = some r → SF t n k xs h .no = some (.ret r.1 r.2, .no)) (w0 : World) : PrOk P w0 k p :=
 ⟨hc, fun xs v φ h w vs hv r hvs => calls_ok hP (ST.xok w0 ht) (ST.tab_ok ht) (SF_ok ht n _ _ _ _ _ (hp xs h v hvs.le32 hv)) r hvs⟩
def wdP (xs : List AV) (h : HP) : Option (AV × HP) := match xs with
 | [.int .i64 (.ofNat op), .int .u32 (.ofNat a), .int .u32 (.ofNat b)] => bif memO op then some (.tup [wv (dwN op a b), iv 0], h) else none
 | _ => none
def sgP (xs : List AV) (h : HP) : Option (AV × HP) := match xs with | [.int .u32 (.ofNat a)] => some (vI (sgW a), h) | _ => none
def truP (xs : List AV) (h : HP) : Option (AV × HP) := match xs with | [.bool b] => some (.agg [iv 1, wv (bW b), uv 0, .str [], iv 0], h) | _ => none
theorem tru_ran (m : Int) (b : Bool) : gc [] (SF tabS 20 21 [.bool b] (gH m) .no) = some (.agg [iv 1, wv (bW b), uv 0, .str [], iv 0], []) := by cases b <;> kernel_rfl
theorem sf_sgP {a : Nat} (ha : a < 4294967296) (h : HP) : SF tabS 20 34 [.int .u32 (.ofNat a)] h .no = some (.ret (vI (sgW a)) h, .no) := by
 have e : SF tabS 20 34 [.int .u32 (.ofNat a)] h .no = obI .i32 (convV (.ii .i32) (vW (Int.ofNat a))) fun t4 => some (.ret (vI (wrapF .i64 t4)) h, .no) := by kernel_rfl
 have e2 : ∀ F : Int → Res2, obI .i32 (convV (.ii .i32) (vW (Int.ofNat a))) F = F (wrapF .i32 (Int.ofNat a)) := fun F => by kernel_rfl
 rw [e, e2, sg_prog ha]
abbrev Kc (t w b : Nat) : AV := .agg [iv t, wv w, uv b, .str [], iv 0]
abbrev Lc (t w b : Nat) : List AV := [iv t, wv w, uv b, .str [], iv 0]
theorem xor_all {w : Nat} (hw : w < 4294967296) : w ^^^ 4294967295 = 4294967295 - w := by
  have h1 : (BitVec.ofNat 32 w ^^^ BitVec.allOnes 32).toNat = (~~~ BitVec.ofNat 32 w).toNat := by rw [BitVec.xor_allOnes]
  rw [BitVec.toNat_xor, BitVec.toNat_not, BitVec.toNat_allOnes, BitVec.toNat_ofNat, Nat.mod_eq_of_lt hw] at h1
  have e : (2 ^ 32 - 1 : Nat) = 4294967295 := by decide
  rw [e] at h1
  omega
theorem tilde {w : Nat} (hw : w < 4294967296) : dwN 6 w 4294967295 = 4294967295 - w ∧ wrapF .u32 (Int.ofNat 4294967295 - Int.ofNat w) = Int.ofNat (4294967295 - w) := by
  letI := rhoV 0 ⟨0, 0, 0⟩ rfl
  have wn : ∀ k : Nat, k ≤ 4294967295 → wrapF .u32 (Int.ofNat k) = Int.ofNat k := fun k hk => by
    show (bif Nat.ble k 4294967295 then Int.ofNat k else _) = _
    rw [show Nat.ble k 4294967295 = true from by rw [Nat.ble_eq]; exact hk]; rfl
  constructor
  · unfold dwN
    rw [← cb 1 6 (by omega) hw (by decide)]
    have : opN 1 w 4294967295 = 4294967295 - w := xor_all hw
    rw [this, wn _ (by omega)]
    rfl
  · rw [sub_nat (by omega), wn _ (by omega)]
end
end Go.Proofs.YtakcpnpeadkfpaaGreatDoor.Lg
