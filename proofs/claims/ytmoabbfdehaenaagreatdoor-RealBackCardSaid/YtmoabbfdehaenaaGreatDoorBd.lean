/- strconv.ParseUint at base 16 of what Hex writes. -/
import Derived.Test.YtmoabbfdehaenaaGreatDoorBc
set_option linter.unusedVariables false
set_option linter.unusedSimpArgs false
set_option linter.unusedSectionVars false
set_option maxRecDepth 20000
namespace Go.Proofs.YtmoabbfdehaenaaGreatDoor.Lx
open Go Go.Proofs.YtmoabbfdehaenaaGreatDoor.Ev Go.Proofs.YtmoabbfdehaenaaGreatDoor.Sx
noncomputable section
def hexD : Nat → Nat → List Nat → List Nat
  | 0, x, acc => x :: acc
  | j + 1, x, acc => if 16 ≤ x then hexD j (x / 16) (x % 16 :: acc) else x :: acc
theorem hexA_D : ∀ j x acc, hexA j x (acc.map hc) = (hexD j x acc).map hc
  | 0, x, acc => rfl
  | j + 1, x, acc => by
    show (if 16 ≤ x then hexA j (x / 16) (hc (x % 16) :: acc.map hc) else hc x :: acc.map hc) = (if 16 ≤ x then hexD j (x / 16) (x % 16 :: acc) else x :: acc).map hc
    by_cases g : 16 ≤ x
    · rw [if_pos g, if_pos g]; exact hexA_D j (x / 16) (x % 16 :: acc)
    · rw [if_neg g, if_neg g]; rfl
def vh : List Nat → Nat → Nat
  | [], a => a
  | d :: l, a => vh l (a * 16 + d)
theorem vh_ge : ∀ l a, a ≤ vh l a
  | [], a => Nat.le_refl a
  | d :: l, a => by show a ≤ vh l (a * 16 + d); have := vh_ge l (a * 16 + d); omega
theorem vh_hex : ∀ j x acc, vh (hexD j x acc) 0 = vh acc x
  | 0, x, acc => by show vh acc (0 * 16 + x) = _; rw [Nat.zero_mul, Nat.zero_add]
  | j + 1, x, acc => by
    show vh (if 16 ≤ x then hexD j (x / 16) (x % 16 :: acc) else x :: acc) 0 = _
    by_cases g : 16 ≤ x
    · rw [if_pos g, vh_hex j]
      show vh acc (x / 16 * 16 + x % 16) = _
      rw [show x / 16 * 16 + x % 16 = x by omega]
    · rw [if_neg g]; show vh acc (0 * 16 + x) = _; rw [Nat.zero_mul, Nat.zero_add]
theorem vh_zeros : ∀ k l, vh (List.replicate k 0 ++ l) 0 = vh l 0
  | 0, l => rfl
  | k + 1, l => by rw [List.replicate_succ]; exact vh_zeros k l
theorem hexD_lt : ∀ j x acc, x < 16 ^ (j + 1) → (∀ d ∈ acc, d < 16) → ∀ d ∈ hexD j x acc, d < 16
  | 0, x, acc, h, ha => by
    intro d hd
    rcases List.mem_cons.1 hd with rfl | q
    · omega
    · exact ha d q
  | j + 1, x, acc, h, ha => by
    show ∀ d ∈ (if 16 ≤ x then hexD j (x / 16) (x % 16 :: acc) else x :: acc), d < 16
    by_cases g : 16 ≤ x
    · rw [if_pos g]
      refine hexD_lt j _ _ (by rw [Nat.pow_succ] at h; omega) fun d hd => ?_
      rcases List.mem_cons.1 hd with rfl | q
      · omega
      · exact ha d q
    · rw [if_neg g]
      intro d hd
      rcases List.mem_cons.1 hd with rfl | q
      · omega
      · exact ha d q
def digS (x : Nat) : List Nat := List.replicate (16 - (hexL x).length) 0 ++ hexD 15 x []
theorem hexS_is (x : Nat) : hexS x = (digS x).map hc := by
  unfold hexS digS
  rw [List.map_append, List.map_replicate]
  have e : hexL x = (hexD 15 x []).map hc := hexA_D 15 x []
  rw [e]
  rfl
theorem digS_val (x : Nat) : vh (digS x) 0 = x := by unfold digS; rw [vh_zeros, vh_hex]; rfl
theorem digS_lt {x : Nat} (h : x < 18446744073709551616) : ∀ d ∈ digS x, d < 16 := by
  intro d hd
  rcases List.mem_append.1 hd with q | q
  · have := List.eq_of_mem_replicate q; omega
  · exact hexD_lt 15 x [] (by rw [show (16 : Nat) ^ (15 + 1) = 18446744073709551616 by decide]; exact h) (fun d hd => by simp at hd) d q
theorem digS_len (x : Nat) : (digS x).length = 16 := by
  have h1 := hexA_len 15 x []
  simp only [List.length_nil] at h1
  have e : hexL x = (hexD 15 x []).map hc := hexA_D 15 x []
  have e2 : (hexL x).length = (hexD 15 x []).length := by rw [e]; simp
  unfold digS
  rw [List.length_append, List.length_replicate]
  unfold hexL at *
  omega
/- The loop. -/
theorem ld_row {h : HP} {p : Pos} {wr : Bool} {s : LN} {i c : Nat} (g : HP.get h p = some (.cells wr (s.map bv))) (hi : s[i]? = some c) (F : Int → Res2) : (iasC 1 (.slice p 0 s.length .unk) (vI (Int.ofNat i)) fun t => ldC t h F) = F (Int.ofNat c) := by
  have hlt : i < s.length := (List.getElem?_eq_some_iff.1 hi).1
  show (Bool.rec none (ldC (.ptr p (Nat.add 0 (Nat.mul i 1))) h F) (Nat.ble (i + 1) s.length) : Res2) = _
  rw [show Nat.ble (i + 1) s.length = true from by rw [Nat.ble_eq]; exact hlt, show Nat.add 0 (Nat.mul i 1) = i from by show 0 + i * 1 = i; omega]
  show cellC (.ptr p i) h (fun v => asI .u8 v F) = _
  rw [cellC_eq]
  have e : cellV (.ptr p i) h = ob (HP.get h p) fun k => match k with | .cells _ vs => nth vs i | _ => none := rfl
  rw [e, g]
  show ob (nth (s.map bv) i) (fun v => asI .u8 v F) = _
  rw [nth_eq, List.getElem?_map, hi]
  rfl
theorem wq64 {k : Nat} (h : k < 18446744073709551616) : wrQ .u64 (Int.ofNat k) = Int.ofNat k := by rw [wrQ_eq]; exact fits64 h
theorem nine {D : CallD} {M n d i : Nat} {g : Int → Bool → LN → Int → Int → Bool → Int → AV → Int → Int → HP → Res2} {s : LN} {t99 : AV} {t100 : Int} {h : HP} (hd : d < 16) (hn : n * 16 + d < 18446744073709551616) (hi : i ≤ 1000) :
    S54_9 D M g (Int.ofNat 16) false s (Int.ofNat 1152921504606846976) (Int.ofNat 18446744073709551615) false (Int.ofNat n) (Int.ofNat d) t99 t100 (Int.ofNat i) h = g (Int.ofNat 16) false s (Int.ofNat 1152921504606846976) (Int.ofNat 18446744073709551615) false (Int.ofNat (n * 16 + d)) t99 t100 (Int.ofNat (i + 1)) h := by
  unfold S54_9
  try dsimp only
  rw [wf_u8 (n := 16) (by omega), le_nat, decide_eq_false (by omega), br_f, le_nat, decide_eq_false (by omega), br_f, fits64 (k := 16) (by omega), fits64 (k := d) (by omega),
    show (Int.ofNat n * Int.ofNat 16 : Int) = Int.ofNat (n * 16) from rfl, wq64 (k := n * 16) (by omega), add_nat, wq64 hn, lt_nat, decide_eq_false (by omega), brV_f, obB_b', lt_nat, decide_eq_false (by omega), br_f]
  unfold S54_8
  try dsimp only
  rw [add_nat, wr_nat (by omega)]
theorem round16 {k M n d i : Nat} {g : Int → Bool → LN → Int → Int → Bool → Int → AV → Int → Int → HP → Res2} {s : LN} {h : HP} {p : Pos} {wr : Bool} {cut mx : Int} (hd : d < 16) (hg : HP.get h p = some (.cells wr (s.map bv))) (hi : s[i]? = some (hc d)) :
    S54_7b (SF tabB (k + 1)) M g (Int.ofNat 16) false s cut mx false (Int.ofNat n) (.slice p 0 s.length .unk) (Int.ofNat s.length) (Int.ofNat i) h = S54_9 (SF tabB (k + 1)) M g (Int.ofNat 16) false s cut mx false (Int.ofNat n) (Int.ofNat d) (.slice p 0 s.length .unk) (Int.ofNat s.length) (Int.ofNat i) h := by
  have hlt : i < s.length := (List.getElem?_eq_some_iff.1 hi).1
  unfold S54_7b
  try dsimp only
  rw [lt_nat, decide_eq_true hlt, br_t]
  refine (ld_row hg hi _).trans ?_
  generalize s.length = N
  have : d = 0 ∨ d = 1 ∨ d = 2 ∨ d = 3 ∨ d = 4 ∨ d = 5 ∨ d = 6 ∨ d = 7 ∨ d = 8 ∨ d = 9 ∨ d = 10 ∨ d = 11 ∨ d = 12 ∨ d = 13 ∨ d = 14 ∨ d = 15 := by omega
  rcases this with rfl | rfl | rfl | rfl | rfl | rfl | rfl | rfl | rfl | rfl | rfl | rfl | rfl | rfl | rfl | rfl <;> (show @Eq Res2 _ _; kernel_rfl)
theorem pu_loop {k M : Nat} {ds : List Nat} {h : HP} {p : Pos} {wr : Bool} (hd : ∀ d ∈ ds, d < 16) (hl : ds.length ≤ 100) (hg : HP.get h p = some (.cells wr ((ds.map hc).map bv))) : ∀ l mm i n, ds.drop i = l → l.length < mm → vh l n < 18446744073709551616 →
    nrec (fun _ _ _ _ _ _ _ _ _ _ _ => none) (fun _ g => S54_7b (SF tabB (k + 1)) M g) mm (Int.ofNat 16) false (ds.map hc) (Int.ofNat 1152921504606846976) (Int.ofNat 18446744073709551615) false (Int.ofNat n) (.slice p 0 (ds.map hc).length .unk) (Int.ofNat (ds.map hc).length) (Int.ofNat i) h = some (.ret (.tup [uv (vh l n), .nili]) h, .no) := by
  intro l
  induction l with
  | nil =>
    intro mm i n h1 h2 h3
    obtain ⟨mm, rfl⟩ : ∃ q, mm = q + 1 := ⟨mm - 1, by simp at h2; omega⟩
    have hi : ds.length ≤ i := by simpa using h1
    show S54_7b (SF tabB (k + 1)) M (nrec (fun _ _ _ _ _ _ _ _ _ _ _ => none) (fun _ g => S54_7b (SF tabB (k + 1)) M g) mm) (Int.ofNat 16) false (ds.map hc) _ _ false (Int.ofNat n) (.slice p 0 (ds.map hc).length .unk) (Int.ofNat (ds.map hc).length) (Int.ofNat i) h = _
    unfold S54_7b
    try dsimp only
    rw [lt_nat, decide_eq_false (by simp; omega), br_f]
    rfl
  | cons d l ih =>
    intro mm i n h1 h2 h3
    obtain ⟨mm, rfl⟩ : ∃ q, mm = q + 1 := ⟨mm - 1, by simp at h2; omega⟩
    have hlt : i < ds.length := by
      rcases Nat.lt_or_ge i ds.length with q | q
      · exact q
      · rw [List.drop_eq_nil_of_le q] at h1; cases h1
    have e := List.drop_eq_getElem_cons hlt
    rw [h1] at e
    injection e with e1 e2
    have hd16 : d < 16 := by rw [e1]; exact hd _ (List.getElem_mem hlt)
    have h3' : vh l (n * 16 + d) < 18446744073709551616 := h3
    have hv := vh_ge l (n * 16 + d)
    show S54_7b (SF tabB (k + 1)) M (nrec (fun _ _ _ _ _ _ _ _ _ _ _ => none) (fun _ g => S54_7b (SF tabB (k + 1)) M g) mm) (Int.ofNat 16) false (ds.map hc) _ _ false (Int.ofNat n) (.slice p 0 (ds.map hc).length .unk) (Int.ofNat (ds.map hc).length) (Int.ofNat i) h = _
    rw [round16 hd16 hg (by rw [List.getElem?_map, List.getElem?_eq_getElem hlt, ← e1]; rfl), nine hd16 (by omega) (by omega)]
    exact ih mm (i + 1) (n * 16 + d) e2.symm (by simp at h2; omega) h3'
theorem find54 : tabB.run 54 = S54 := by kernel_rfl
theorem find35 : tabB.run 35 = S35 := by kernel_rfl
theorem sf_pu (k : Nat) {x : Nat} (hx : x < 18446744073709551616) (h : HP) : ∃ h', SF tabB (k + 22) 35 [.str (hexS x), iv 16, iv 64] h .no = some (.ret (.tup [uv x, .nili]) h', .no) := by
  have hl := digS_len x
  obtain ⟨c, l, e0⟩ : ∃ c l, hexS x = c :: l := by
    cases e : hexS x with
    | nil => rw [hexS_is] at e; have := congrArg List.length e; simp [hl] at this
    | cons c l => exact ⟨c, l, rfl⟩
  have e1 : ∀ (D : CallD) (M : Nat) (c : Nat) (l : LN), S54_18 D M (c :: l) (Int.ofNat 16) (Int.ofNat 64) h = S54_7 D M (Int.ofNat 16) false (c :: l) (Int.ofNat 1152921504606846976) (Int.ofNat 18446744073709551615) false (Int.ofNat 0) (.slice (HP.nx h) 0 (lenL (c :: l)) .unk) (Int.ofNat (lenL (c :: l))) (Int.ofNat 0) (HP.new h (.cells false ((c :: l).map bv))) := fun D M c l => by kernel_rfl
  refine ⟨HP.new h (.cells false ((hexS x).map bv)), ?_⟩
  rw [SF_succ, find35]
  show S35_0 (SF tabB (k + 21)) (k + 21) (hexS x) (Int.ofNat 16) (Int.ofNat 64) h = _
  unfold S35_0
  have e2 : SF tabB (k + 21) 54 [.str (hexS x), iv 16, iv 64] h .no = some (.ret (.tup [uv x, .nili]) (HP.new h (.cells false ((hexS x).map bv))), .no) := by
    rw [SF_succ, find54]
    show S54_18 (SF tabB (k + 20)) (k + 20) (hexS x) (Int.ofNat 16) (Int.ofNat 64) h = _
    rw [e0, e1, ← e0, lenL_eq, hexS_is]
    have g : HP.get (HP.new h (.cells false (((digS x).map hc).map bv))) (HP.nx h) = some (.cells false (((digS x).map hc).map bv)) := by
      letI := rh
      rw [HP.get_new, if_pos rfl]
    have := pu_loop (k := k + 19) (M := k + 20) (digS_lt hx) (by rw [hl]; omega) g (digS x) (k + 20) 0 0 rfl (by rw [hl]; omega) (by rw [digS_val]; exact hx)
    rw [digS_val] at this
    exact this
  refine (cal_of e2 _).trans ?_
  kernel_rfl
end
end Go.Proofs.YtmoabbfdehaenaaGreatDoor.Lx
