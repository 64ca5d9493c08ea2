/- LexMany: the law's printed function. -/
import Derived.Test.YtlfhnopganplfaaGreatDoorLl
set_option linter.unusedVariables false
set_option linter.unusedSimpArgs false
set_option linter.unusedSectionVars false
set_option maxRecDepth 20000
namespace Go.Proofs.YtlfhnopganplfaaGreatDoor.Lx
open Go Go.Proofs.YtlfhnopganplfaaGreatDoor.Ev Go.Proofs.YtlfhnopganplfaaGreatDoor.Sx
noncomputable section
theorem put_mid (v x : AV) (R : List AV) : ∀ A : List AV, putAt [v] A.length (A ++ x :: R) = some (A ++ v :: R)
  | [] => by
    show putAt [v] 0 (x :: R) = _
    rw [putAt_zero, putOver_cons]
    rfl
  | a :: A => by
    show putAt [v] (A.length + 1) (a :: (A ++ x :: R)) = _
    rw [putAt_cons, put_mid v x R A]
    rfl
theorem sto_at {h : HP} {p : Pos} {A R : List AV} {x v : AV} {i : Nat} (hi : A.length = i) (g : HP.get h p = some (.cells true (A ++ x :: R))) (hv : allOne [v] = true) (F : HP → Res2) : stoC (.ptr p i) v h F = F (HP.putQ h p (some (.cells true (A ++ v :: R)))) := by
  rw [stoC_eq]
  have e : storeV (.ptr p i) v h = ob (HP.get h p) fun k => match k with | .cells true vs => bif allOne [v] then ob (putAt [v] i vs) fun r => some (HP.put h p (some (.cells true r))) else none | _ => none := rfl
  rw [e, g, putQ_is]
  show ob (bif allOne [v] then ob (putAt [v] i (A ++ x :: R)) _ else none) F = _
  rw [hv, ← hi, put_mid]
  rfl
theorem ias_at {b : Pos} {N i : Nat} (h : i < N) (F : AV → Res2) : iasC 1 (.slice b 0 N (.exact N)) (vI (Int.ofNat i)) F = F (.ptr b i) := by
  show (Bool.rec none (F (.ptr b (Nat.add 0 (Nat.mul i 1)))) (Nat.ble (i + 1) N) : Res2) = _
  rw [show Nat.ble (i + 1) N = true from by rw [Nat.ble_eq]; exact h, show Nat.add 0 (Nat.mul i 1) = i from by show 0 + i * 1 = i; omega]
theorem rep_is (z : AV) : ∀ n, rep [z] n = List.replicate n z
  | 0 => rfl
  | n + 1 => by rw [rep_succ, rep_is z n, List.replicate_succ]; rfl
theorem mk_ok {N : Nat} (h : N ≤ 1000000) (F : Blk × VK → Res2) : obQ (evA (.mksl [(.int .u8 (.ofNat 0))] 1 (.c (vI (Int.ofNat N))) (.c (vI (Int.ofNat N)))) .leaf) F = F (.cells true (List.replicate N (bv 0)), .sl N N) := by
  show obQ (bif Nat.ble N N && Nat.ble (Nat.mul 1 N) 140737488355328 && Nat.ble N 9223372036854775807 then some (Blk.cells true (rep [bv 0] N), VK.sl N N) else none) F = _
  rw [show Nat.ble N N = true from by rw [Nat.ble_eq]; exact Nat.le_refl _, show Nat.ble (Nat.mul 1 N) 140737488355328 = true from by rw [Nat.ble_eq]; show 1 * N ≤ _; omega, show Nat.ble N 9223372036854775807 = true from by rw [Nat.ble_eq]; omega, rep_is]
  rfl
theorem bytes_is : ∀ s : LN, (∀ c ∈ s, c ≤ 255) → bytesOf (s.map bv) = some s
  | [], _ => rfl
  | c :: s, h => by
    have e := bytes_is s fun x hx => h x (by simp [hx])
    unfold bytesOf at e ⊢
    rw [List.map_cons, mapO_cons, e]
    show (bif Nat.ble c 255 then some c else none).bind (fun b => (some s).map (b :: ·)) = _
    rw [show Nat.ble c 255 = true from by rw [Nat.ble_eq]; exact h c (by simp)]
    rfl
theorem bstr_all {h : HP} {p : Pos} {s : LN} {k : Cap} (g : HP.get h p = some (.cells true (s.map bv))) (hs : ∀ c ∈ s, c ≤ 255) : bstrV (.slice p 0 s.length k) h = some (.str s) := by
  have e : bstrV (.slice p 0 s.length k) h = ob (HP.get h p) fun k => match k with | .cells _ vs => ob (takeN s.length (dropN 0 vs)) fun r => ob (bytesOf r) fun l => some (.str l) | _ => none := rfl
  rw [e, g]
  show ob (takeN s.length (s.map bv)) _ = _
  rw [takeN_is s.length (s.map bv) (by simp), List.take_of_length_le (by simp)]
  show ob (bytesOf (s.map bv)) _ = _
  rw [bytes_is s hs]
  rfl
theorem txt_le (n b : Nat) : ∀ c ∈ txt n b, c ≤ 255 := by
  intro c hc
  rcases List.mem_append.1 hc with hc | hc <;> (have := List.eq_of_mem_replicate hc; omega)
theorem txt_get {n b i : Nat} (h : i < n + b) : (txt n b)[i]? = some (if i < n then 59 else 32) := by
  unfold txt
  by_cases g : i < n
  · rw [if_pos g, List.getElem?_append_left (by simpa using g), List.getElem?_replicate, if_pos g]
  · rw [if_neg g, List.getElem?_append_right (by simp; omega), List.getElem?_replicate, if_pos (by simp; omega)]
/-- The bytes so far. -/
def bl (n b i : Nat) : List AV := ((txt n b).take i).map bv ++ List.replicate (n + b - i) (bv 0)
theorem bl_at {n b i : Nat} (h : i < n + b) : bl n b i = ((txt n b).take i).map bv ++ bv 0 :: List.replicate (n + b - i - 1) (bv 0) := by
  unfold bl
  rw [show n + b - i = (n + b - i - 1) + 1 by omega, List.replicate_succ]
  rfl
theorem bl_next {n b i : Nat} (h : i < n + b) : ((txt n b).take i).map bv ++ bv (if i < n then 59 else 32) :: List.replicate (n + b - i - 1) (bv 0) = bl n b (i + 1) := by
  unfold bl
  have e := txt_get h
  rw [show n + b - (i + 1) = n + b - i - 1 by omega, List.take_add_one, e, List.map_append, List.append_assoc]
  rfl
theorem take_len {n b i : Nat} (h : i < n + b) : (((txt n b).take i).map bv).length = i := by
  rw [List.length_map, List.length_take, txt_len]; omega
theorem fill_loop (D : CallD) (M n b : Nat) (hN : n + b ≤ 100000) (p : Pos) : ∀ j mm i h, i + j = n + b → j < mm → HP.get h p = some (.cells true (bl n b i)) →
    ∃ h', nrec (fun _ _ _ _ _ _ => none) (fun _ g => S3_1b D M g) mm (Int.ofNat n) (Int.ofNat b) (.slice p 0 (n + b) (.exact (n + b))) (Int.ofNat (n + b)) (Int.ofNat i) h = S3_0 D M (Int.ofNat n) (Int.ofNat b) (.slice p 0 (n + b) (.exact (n + b))) h' ∧ HP.get h' p = some (.cells true ((txt n b).map bv)) := by
  intro j
  induction j with
  | zero =>
    intro mm i h h1 h2 g
    obtain ⟨mm, rfl⟩ : ∃ q, mm = q + 1 := ⟨mm - 1, by omega⟩
    refine ⟨h, ?_, ?_⟩
    · show S3_1b D M (nrec (fun _ _ _ _ _ _ => none) (fun _ g => S3_1b D M g) mm) (Int.ofNat n) (Int.ofNat b) (.slice p 0 (n + b) (.exact (n + b))) (Int.ofNat (n + b)) (Int.ofNat i) h = _
      unfold S3_1b
      try dsimp only
      rw [lt_nat, decide_eq_false (by omega), br_f]
    · rw [g]
      have hi : i = n + b := by omega
      subst hi
      unfold bl
      rw [Nat.sub_self, List.replicate_zero, List.append_nil, List.take_of_length_le (by rw [txt_len]; exact Nat.le_refl _)]
  | succ j ih =>
    intro mm i h h1 h2 g
    obtain ⟨mm, rfl⟩ : ∃ q, mm = q + 1 := ⟨mm - 1, by omega⟩
    have hi : i < n + b := by omega
    rw [bl_at hi] at g
    have step : ∀ h9, HP.get h9 p = some (.cells true (bl n b (i + 1))) → (nrec (fun _ _ _ _ _ _ => none) (fun _ g => S3_1b D M g) (mm + 1) (Int.ofNat n) (Int.ofNat b) (.slice p 0 (n + b) (.exact (n + b))) (Int.ofNat (n + b)) (Int.ofNat i) h = S3_2 D M (nrec (fun _ _ _ _ _ _ => none) (fun _ g => S3_1b D M g) mm) (Int.ofNat n) (Int.ofNat b) (.slice p 0 (n + b) (.exact (n + b))) (Int.ofNat (n + b)) (Int.ofNat i) h9) →
        ∃ h', nrec (fun _ _ _ _ _ _ => none) (fun _ g => S3_1b D M g) (mm + 1) (Int.ofNat n) (Int.ofNat b) (.slice p 0 (n + b) (.exact (n + b))) (Int.ofNat (n + b)) (Int.ofNat i) h = S3_0 D M (Int.ofNat n) (Int.ofNat b) (.slice p 0 (n + b) (.exact (n + b))) h' ∧ HP.get h' p = some (.cells true ((txt n b).map bv)) := by
      intro h9 g9 e
      obtain ⟨h', e', q⟩ := ih mm (i + 1) h9 (by omega) (by omega) g9
      refine ⟨h', ?_, q⟩
      rw [e, ← e']
      unfold S3_2
      try dsimp only
      rw [add_nat, wr_nat (by omega)]
    have g8 : HP.get (HP.putQ h p (some (.cells true (((txt n b).take i).map bv ++ bv 32 :: List.replicate (n + b - i - 1) (bv 0))))) p = some (.cells true (((txt n b).take i).map bv ++ bv 32 :: List.replicate (n + b - i - 1) (bv 0))) := by rw [getP, if_pos rfl]
    by_cases q : i < n
    · refine step (HP.putQ (HP.putQ h p (some (.cells true (((txt n b).take i).map bv ++ bv 32 :: List.replicate (n + b - i - 1) (bv 0))))) p (some (.cells true (((txt n b).take i).map bv ++ bv 59 :: List.replicate (n + b - i - 1) (bv 0))))) ?_ ?_
      · rw [getP, if_pos rfl, ← bl_next hi, if_pos q]
      · show S3_1b D M (nrec (fun _ _ _ _ _ _ => none) (fun _ g => S3_1b D M g) mm) (Int.ofNat n) (Int.ofNat b) (.slice p 0 (n + b) (.exact (n + b))) (Int.ofNat (n + b)) (Int.ofNat i) h = _
        unfold S3_1b
        try dsimp only
        rw [lt_nat, decide_eq_true hi, br_t]
        refine (ias_at hi _).trans ?_
        refine (sto_at (take_len hi) g rfl _).trans ?_
        rw [lt_nat, decide_eq_true q, br_t]
        refine (ias_at hi _).trans ?_
        refine (sto_at (take_len hi) g8 rfl _).trans ?_
        rfl
    · refine step (HP.putQ h p (some (.cells true (((txt n b).take i).map bv ++ bv 32 :: List.replicate (n + b - i - 1) (bv 0))))) ?_ ?_
      · rw [g8, ← bl_next hi, if_neg q]
      · show S3_1b D M (nrec (fun _ _ _ _ _ _ => none) (fun _ g => S3_1b D M g) mm) (Int.ofNat n) (Int.ofNat b) (.slice p 0 (n + b) (.exact (n + b))) (Int.ofNat (n + b)) (Int.ofNat i) h = _
        unfold S3_1b
        try dsimp only
        rw [lt_nat, decide_eq_true hi, br_t]
        refine (ias_at hi _).trans ?_
        refine (sto_at (take_len hi) g rfl _).trans ?_
        rw [lt_nat, decide_eq_false q, br_f]
        rfl
/- What the law sees of the lexer. -/
theorem lexQ_e {k : Nat} (s : LN) (h : HP) : SF tabQ (k + 1) 7 [.str s] h .no = ob (lexQ [.str s] h) fun r => some (.ret r.1 r.2, .no) := by kernel_rfl
theorem lexQ_long {k n b : Nat} (q : 8192 < n + b) (h : HP) : SF tabQ (k + 1) 7 [.str (txt n b)] h .no = some (.ret (.tup [.nils, iv 0, iv 6]) h, .no) := by
  rw [lexQ_e]
  show ob (@ite _ (8192 < (txt n b).length) (Classical.propDecidable _) _ _) _ = _
  rw [if_pos (by rw [txt_len]; exact q)]
  rfl
theorem lexQ_full {k n b : Nat} (q : n + b ≤ 8192) (q2 : 2500 < n) (h : HP) : SF tabQ (k + 1) 7 [.str (txt n b)] h .no = some (.ret (.tup [.nils, iv 2500, iv 5]) h, .no) := by
  rw [lexQ_e]
  show ob (@ite _ (8192 < (txt n b).length) (Classical.propDecidable _) _ (@ite _ (∃ c, txt n b = txt ((txt n b).count 59) c) (Classical.propDecidable _) (@ite _ (2500 < (txt n b).count 59) (Classical.propDecidable _) _ _) _)) _ = _
  rw [if_neg (by rw [txt_len]; omega), if_pos ⟨b, by rw [txt_count]⟩, if_pos (by rw [txt_count]; exact q2)]
  rfl
theorem lexQ_ok {k n b : Nat} (q : n + b ≤ 8192) (q2 : n ≤ 2500) (h : HP) : SF tabQ (k + 1) 7 [.str (txt n b)] h .no = some (.ret (.tup [.slice (HP.nxQ h) 0 (n + 1) .unk, iv 0, iv 0]) (HP.newQ h (.cells false [])), .no) := by
  rw [lexQ_e]
  show ob (@ite _ (8192 < (txt n b).length) (Classical.propDecidable _) _ (@ite _ (∃ c, txt n b = txt ((txt n b).count 59) c) (Classical.propDecidable _) (@ite _ (2500 < (txt n b).count 59) (Classical.propDecidable _) _ (some (AV.tup [.slice (HP.nxQ h) 0 ((txt n b).count 59 + 1) .unk, iv 0, iv 0], HP.newQ h (.cells false [])))) _)) _ = _
  rw [if_neg (by rw [txt_len]; omega), if_pos ⟨b, by rw [txt_count]⟩, if_neg (by rw [txt_count]; omega), txt_count]
  rfl
theorem fin3 {k n b M : Nat} (hn : n < 2510) (hb : b < 8200) (p : Pos) {h : HP} (g : HP.get h p = some (.cells true ((txt n b).map bv))) : ∃ h2, S3_0 (SF tabQ (k + 1)) M (Int.ofNat n) (Int.ofNat b) (.slice p 0 (n + b) (.exact (n + b))) h = some (.ret (.bool true) h2, .no) := by
  unfold S3_0
  have e : bstrV (.slice p 0 (n + b) (.exact (n + b))) h = some (.str (txt n b)) := by
    have := bstr_all (k := .exact (n + b)) g (txt_le n b)
    rw [txt_len] at this
    exact this
  rw [e, obS_s]
  by_cases q : 8192 < n + b
  · refine ex_tr (cal_of (lexQ_long q h) _) ?_
    refine ex_tr (ext0 _ _ _) ?_
    refine ex_tr (ext1 _ _ _ _) ?_
    refine ex_tr (asI_iv _ _) ?_
    refine ex_tr (ext2 _ _ _ _ _) ?_
    refine ex_tr (asI_iv _ _) ?_
    try dsimp only
    rw [add_nat, wr_nat (by omega), lt_nat, decide_eq_true q, br_t]
    refine ex_tr (obB_some (c := true) (by kernel_rfl) _) ?_
    exact ⟨_, rfl⟩
  by_cases q2 : 2500 < n
  · refine ex_tr (cal_of (lexQ_full (by omega) q2 h) _) ?_
    refine ex_tr (ext0 _ _ _) ?_
    refine ex_tr (ext1 _ _ _ _) ?_
    refine ex_tr (asI_iv _ _) ?_
    refine ex_tr (ext2 _ _ _ _ _) ?_
    refine ex_tr (asI_iv _ _) ?_
    try dsimp only
    rw [add_nat, wr_nat (by omega), lt_nat, decide_eq_false q, br_f, lt_nat, decide_eq_true q2, br_t]
    refine ex_tr (obB_some (c := true) (by kernel_rfl) _) ?_
    exact ⟨_, rfl⟩
  · refine ex_tr (cal_of (lexQ_ok (by omega) (by omega) h) _) ?_
    refine ex_tr (ext0 _ _ _) ?_
    refine ex_tr (ext1 _ _ _ _) ?_
    refine ex_tr (asI_iv _ _) ?_
    refine ex_tr (ext2 _ _ _ _ _) ?_
    refine ex_tr (asI_iv _ _) ?_
    try dsimp only
    rw [add_nat, wr_nat (by omega), lt_nat, decide_eq_false q, br_f, lt_nat, decide_eq_false q2, br_f]
    refine ex_tr (obB_some (c := eqQ (Int.ofNat (n + 1)) (wrQ .i64 (addQ (Int.ofNat n) (Int.ofNat 1)))) (by kernel_rfl) _) ?_
    rw [add_nat, wr_nat (by omega), eq_nat, decide_eq_true rfl]
    exact ⟨_, rfl⟩
theorem find3 : tabQ.run 3 = S3 := by kernel_rfl
theorem awk3 (h : HP) (k : AV → HP → Res2) : cal (SF tabQ 20000) 6 [] h k = k (.bool true) h := by kernel_rfl
theorem run3 (m n0 b0 : Int) : Go.Proofs.YtlfhnopganplfaaGreatDoor.Ev.isTrue (SF tabQ 20001 3 [.int .i64 n0, .int .i64 b0] (gH m) .no) = true := by
  have : ∃ h2, SF tabQ 20001 3 [.int .i64 n0, .int .i64 b0] (gH m) .no = some (.ret (.bool true) h2, .no) := by
    rw [SF_succ, find3]
    show ∃ h2, S3_3 (SF tabQ 20000) 20000 n0 b0 (gH m) = _
    unfold S3_3
    refine ex_tr (awk3 _ _) ?_
    refine ex_tr (asB_b _ _) ?_
    refine ex_tr (br_f _ _) ?_
    try dsimp only
    rw [keyM (by decide) (by decide), keyM (by decide) (by decide)]
    have hn : remM 2510 n0 < 2510 := Nat.mod_lt _ (by decide)
    have hb : remM 8200 b0 < 8200 := Nat.mod_lt _ (by decide)
    generalize remM 2510 n0 = n at hn ⊢
    generalize remM 8200 b0 = b at hb ⊢
    rw [add_nat, wr_nat (by omega)]
    refine ex_tr (mk_ok (by omega) _) ?_
    refine ex_tr (Y := S3_1 (SF tabQ 20000) 20000 (Int.ofNat n) (Int.ofNat b) (.slice (HP.nxQ (gH m)) 0 (n + b) (.exact (n + b))) (Int.ofNat (n + b)) (Int.ofNat 0) (HP.newQ (gH m) (.cells true (List.replicate (n + b) (bv 0))))) rfl ?_
    unfold S3_1
    obtain ⟨h', e, g⟩ := fill_loop (SF tabQ 20000) 20000 n b (by omega) (HP.nxQ (gH m)) (n + b) 20000 0 (HP.newQ (gH m) (.cells true (List.replicate (n + b) (bv 0)))) (by omega) (by omega) (by
      rw [getN, if_pos rfl]; unfold bl; simp)
    refine ex_tr e ?_
    exact fin3 (k := 19999) hn hb _ g
  obtain ⟨h2, e⟩ := this
  unfold Go.Proofs.YtlfhnopganplfaaGreatDoor.Ev.isTrue
  rw [e]
end
end Go.Proofs.YtlfhnopganplfaaGreatDoor.Lx
