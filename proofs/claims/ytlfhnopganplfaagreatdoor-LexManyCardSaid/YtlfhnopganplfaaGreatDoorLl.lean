/- LexMany: the lexer at semicolons and blanks as a function with known answers. -/
import Derived.Test.YtlfhnopganplfaaGreatDoorLk
set_option linter.unusedVariables false
set_option linter.unusedSimpArgs false
set_option linter.unusedSectionVars false
set_option maxRecDepth 20000
namespace Go.Proofs.YtlfhnopganplfaaGreatDoor.Lx
open Go Go.Proofs.YtlfhnopganplfaaGreatDoor.Ev Go.Proofs.YtlfhnopganplfaaGreatDoor.Sx
noncomputable section
/-- n semicolons, b blanks. -/
def txt (n b : Nat) : LN := List.replicate n 59 ++ List.replicate b 32
theorem txt_len (n b : Nat) : (txt n b).length = n + b := by simp [txt]
theorem txt_drop {n b i : Nat} (h : i < n) : ∃ l, (txt n b).drop i = 59 :: l ∧ (l = [] ∨ ∃ l', l = 59 :: l' ∨ l = 32 :: l') := by
  refine ⟨txt (n - i - 1) b, ?_, ?_⟩
  · unfold txt
    rw [List.drop_append_of_le_length (by simp; omega), List.drop_replicate, show n - i = (n - i - 1) + 1 by omega, List.replicate_succ]
    rfl
  · cases hk : n - i - 1 with
    | zero => cases b with
      | zero => left; rfl
      | succ b => right; exact ⟨List.replicate b 32, .inr rfl⟩
    | succ k => right; exact ⟨txt k b, .inl rfl⟩
theorem txt_end {n b i : Nat} (h : n ≤ i) : ∀ c ∈ (txt n b).drop i, c = 32 := by
  intro c hc
  unfold txt at hc
  rw [List.drop_append, List.drop_eq_nil_of_le (by simp; omega), List.nil_append] at hc
  exact List.eq_of_mem_replicate (List.mem_of_mem_drop hc)
theorem t1_of {n b i : Nat} (h : i < n) : T1 (txt n b) i := by
  obtain ⟨l, e, hl⟩ := txt_drop (b := b) h
  exact ⟨by rw [txt_len]; omega, l, e, hl⟩
theorem g1_of {n b i : Nat} (h : i < n) : G1 (txt n b) i := by
  obtain ⟨l, e, _⟩ := txt_drop (b := b) h
  exact ⟨by rw [txt_len]; omega, l, e⟩
theorem g1_no {n b i : Nat} (h : n ≤ i) : ¬ G1 (txt n b) i := by
  rintro ⟨_, l, e⟩
  have := txt_end (b := b) h 59 (by rw [e]; simp)
  omega
/-- Where the lexer stands behind i tokens. -/
def atI (n b i : Nat) : Nat := if i < n then i else n + b
theorem gap_at {k n b i : Nat} (hi : i ≤ n) (hl : n + b ≤ 8192) (h : HP) : SF tabP (k + 1) 10 [.str (txt n b), iv i] h .no = some (.ret (iv (atI n b i)) h, .no) := by
  unfold atI
  by_cases g : i < n
  · rw [if_pos g]; exact gapP_1 (g1_of g) h
  · rw [if_neg g]
    have := gapP_2 (n := k) (s := txt n b) (a := i) (g1_no (by omega)) ⟨by rw [txt_len]; omega, by rw [txt_len]; omega, txt_end (by omega)⟩ h
    rw [txt_len] at this
    exact this
section
variable {k M n b : Nat}
theorem loop_ok (hn : n ≤ 2500) (hl : n + b ≤ 8192) : ∀ j mm i h out, i + j = n → j < mm → Vw h i (atI n b i) out →
    ∃ h' c vs, nrec (fun _ _ _ _ _ _ => none) (fun _ g => S7_1b (SF tabP (k + 1)) M g) mm (txt n b) (.ptr pA 0) (.ptr pB 0) (.ptr pC 0) h dX = some (.ret (.tup [.slice c 0 (n + 1) (.spare 3), iv 0, iv 0]) h', .no) ∧ HP.get h' c = some (.cells true vs) := by
  intro j
  induction j with
  | zero =>
    intro mm i h out h1 h2 v
    obtain ⟨mm, rfl⟩ : ∃ q, mm = q + 1 := ⟨mm - 1, by omega⟩
    have hi : i = n := by omega
    subst hi
    have e : atI i b i = (txt i b).length := by unfold atI; rw [if_neg (by omega), txt_len]
    rw [e] at v
    exact exit_ok (n := k) (M := M) (g := nrec (fun _ _ _ _ _ _ => none) (fun _ g => S7_1b (SF tabP (k + 1)) M g) mm) v hn
  | succ j ih =>
    intro mm i h out h1 h2 v
    obtain ⟨mm, rfl⟩ : ∃ q, mm = q + 1 := ⟨mm - 1, by omega⟩
    have e : atI n b i = i := by unfold atI; rw [if_pos (by omega)]
    rw [e] at v
    obtain ⟨h', out', e1, v'⟩ := it_ok (n := k) (M := M) (g := nrec (fun _ _ _ _ _ _ => none) (fun _ g => S7_1b (SF tabP (k + 1)) M g) mm) v (by omega) (by rw [txt_len]; omega) (t1_of (by omega)) (j := atI n b (i + 1)) (by unfold atI; split <;> omega) (fun h => gap_at (by omega) hl h)
    obtain ⟨h2, c, vs, e2, e3⟩ := ih mm (i + 1) h' out' (by omega) (by omega) v'
    exact ⟨h2, c, vs, e1.trans e2, e3⟩
theorem loop_full (hn : 2500 < n) (hl : n + b ≤ 8192) : ∀ j mm i h out, i + j = 2500 → j < mm → Vw h i (atI n b i) out →
    ∃ h', nrec (fun _ _ _ _ _ _ => none) (fun _ g => S7_1b (SF tabP (k + 1)) M g) mm (txt n b) (.ptr pA 0) (.ptr pB 0) (.ptr pC 0) h dX = some (.ret (.tup [.nils, iv 2500, iv 5]) h', .no) := by
  intro j
  induction j with
  | zero =>
    intro mm i h out h1 h2 v
    obtain ⟨mm, rfl⟩ : ∃ q, mm = q + 1 := ⟨mm - 1, by omega⟩
    have hi : i = 2500 := by omega
    subst hi
    have e : atI n b 2500 = 2500 := by unfold atI; rw [if_pos hn]
    rw [e] at v
    exact full_ok (n := k) (M := M) (g := nrec (fun _ _ _ _ _ _ => none) (fun _ g => S7_1b (SF tabP (k + 1)) M g) mm) v (by rw [txt_len]; omega) (t1_of hn)
  | succ j ih =>
    intro mm i h out h1 h2 v
    obtain ⟨mm, rfl⟩ : ∃ q, mm = q + 1 := ⟨mm - 1, by omega⟩
    have e : atI n b i = i := by unfold atI; rw [if_pos (by omega)]
    rw [e] at v
    obtain ⟨h', out', e1, v'⟩ := it_ok (n := k) (M := M) (g := nrec (fun _ _ _ _ _ _ => none) (fun _ g => S7_1b (SF tabP (k + 1)) M g) mm) v (by omega) (by rw [txt_len]; omega) (t1_of (by omega)) (j := atI n b (i + 1)) (by unfold atI; split <;> omega) (fun h => gap_at (by omega) hl h)
    obtain ⟨h2, e2⟩ := ih mm (i + 1) h' out' (by omega) (by omega) v'
    exact ⟨h2, e1.trans e2⟩
end
section
variable (m : Int) {n b : Nat}
def h0 (a : Nat) : HP := HP.putQ (hA m) pB (some (.cells true [iv a]))
theorem v0 (a : Nat) : Vw (h0 m a) 0 a .nils := ⟨by kernel_rfl, by kernel_rfl, by kernel_rfl, by
  have : (HP.nxQ (h0 m a)).toNat = pC.toNat + 1 := by kernel_rfl
  omega, .inl ⟨rfl, rfl⟩⟩
theorem find_lexP : tabP.run 7 = S7 := by kernel_rfl
theorem start_ok (hl : n + b ≤ 8192) : SF tabP 3002 7 [.str (txt n b)] (gH m) .no = nrec (fun _ _ _ _ _ _ => none) (fun _ g => S7_1b (SF tabP 3001) 3001 g) 3001 (txt n b) (.ptr pA 0) (.ptr pB 0) (.ptr pC 0) (h0 m (atI n b 0)) dX := by
  rw [show SF tabP 3002 7 [.str (txt n b)] (gH m) .no = S7_2 (SF tabP 3001) 3001 (txt n b) (gH m) from by rw [SF_succ, find_lexP]; rfl]
  refine (E0 m _ _ (by rw [txt_len]; exact hl)).trans ?_
  refine (calC_of (gap_at (k := 3000) (i := 0) (by omega) hl _) _ _).trans ?_
  have e : ∀ (a : Nat) (D : CallD) (M : Nat) (s : LN) (g : Gx), lxK D M g s (a2 m) (a3 m) (a4 m) (d9 m) (iv a) (hA m) = g s (.ptr pA 0) (.ptr pB 0) (.ptr pC 0) (h0 m a) dX := fun a D M s g => by kernel_rfl
  exact e _ _ _ _ _
theorem lex_many (hn : n ≤ 2500) (hl : n + b ≤ 8192) : ∃ h' c vs, SF tabP 3002 7 [.str (txt n b)] (gH m) .no = some (.ret (.tup [.slice c 0 (n + 1) (.spare 3), iv 0, iv 0]) h', .no) ∧ HP.get h' c = some (.cells true vs) := by
  rw [start_ok m hl]
  exact loop_ok (k := 3000) hn hl n 3001 0 _ _ (by omega) (by omega) (v0 m _)
theorem lex_full (hn : 2500 < n) (hl : n + b ≤ 8192) : ∃ h', SF tabP 3002 7 [.str (txt n b)] (gH m) .no = some (.ret (.tup [.nils, iv 2500, iv 5]) h', .no) := by
  rw [start_ok m hl]
  exact loop_full (k := 3000) hn hl 2500 3001 0 _ _ (by omega) (by omega) (v0 m _)
theorem lex_long {s : LN} (hl : 8192 < s.length) : ∃ h', SF tabP 3002 7 [.str s] (gH m) .no = some (.ret (.tup [.nils, iv 0, iv 6]) h', .no) := by
  rw [show SF tabP 3002 7 [.str s] (gH m) .no = S7_2 (SF tabP 3001) 3001 s (gH m) from by rw [SF_succ, find_lexP]; rfl]
  unfold S7_2
  dsimp only
  rw [lenL_eq, lt_nat, decide_eq_true hl, br_t]
  exact ⟨hpOf (stoC (a2 m) (.nils : AV) (hA m) fun h6 => stoC (a3 m) (vI (Int.ofNat 0)) h6 fun h7 => stoC (a4 m) (vI (Int.ofNat 6)) h7 fun h8 => XFn.endOf x7 (SF tabP 3001) (.ret ⟨(mkT [(p2, a2 m), (p3, a3 m), (p4, a4 m)]), h8, [], .no⟩)), by kernel_rfl⟩
end
/- The lexer as a function with known answers. -/
def lexQ (xs : List AV) (h : HP) : Option (AV × HP) := match xs with
  | [.str s] => @ite _ (8192 < s.length) (Classical.propDecidable _) (some (.tup [.nils, iv 0, iv 6], h))
      (@ite _ (∃ b, s = txt (s.count 59) b) (Classical.propDecidable _)
        (@ite _ (2500 < s.count 59) (Classical.propDecidable _) (some (.tup [.nils, iv 2500, iv 5], h)) (some (.tup [.slice (HP.nxQ h) 0 (s.count 59 + 1) .unk, iv 0, iv 0], HP.newQ h (.cells false [])))) none)
  | _ => none
theorem txt_count (n b : Nat) : (txt n b).count 59 = n := by
  unfold txt
  rw [List.count_append, List.count_replicate, List.count_replicate]
  simp
section
variable [Rho]
/-- A new block of which nothing is known, at whatever place in it. -/
theorem Rel.bornL {w0 w w' : World} {φ : Phi} {h : HP} (r : Rel w0 φ h w) (b : Go.RowKit.Below w.heap.size w w') {l : Ev.Loc} (hN : w.heap.size ≤ l.blk) {c : Array Value} {el : TypeId} {fz : Nat × Nat} (hc : w'.heap[l.blk]? = some (.cells c el fz)) :
    Rel w0 (φ.add h.nx l) (h.new (.cells false [])) w' ∧ Ext φ h w (φ.add h.nx l) (h.new (.cells false [])) w' := by
  have hn := r.nx_none
  have hle := Phi.add_le (l := l) hn
  have r' := r.below b
  have hlt : l.blk < w'.heap.size := by
    rcases Nat.lt_or_ge l.blk w'.heap.size with k | k
    · exact k
    · rw [Array.getElem?_eq_none k] at hc; simp at hc
  refine ⟨⟨r'.os, r'.tape, r'.output, r'.size, r'.old, ⟨r'.gb.1.trans hle, r'.gb.2⟩, fun p hp => ?_, fun p l' hp => ?_, fun p l' k hp hk => ?_, fun p p' l1 l2 k k' hp hp' hk hk' hw hb => ?_⟩, ⟨hle, by rw [HP.nx_new, Pos.toNat_succ]; omega, b.size, fun p hp hnp => ?_⟩⟩
  · rw [HP.nx_new, Pos.toNat_succ] at hp
    rw [HP.get_new, if_neg (by intro e; subst e; omega)]; exact r'.wf p (by omega)
  · rw [HP.nx_new, Pos.toNat_succ]
    unfold Phi.add at hp
    split at hp
    · rename_i e; subst e
      obtain rfl := Option.some.inj hp
      exact ⟨by omega, hlt⟩
    · have := r'.dom p l' hp; exact ⟨by omega, this.2⟩
  · rw [HP.get_new] at hk
    unfold Phi.add at hp
    by_cases e : p = h.nx
    · rw [if_pos e] at hp hk
      obtain rfl := Option.some.inj hp
      obtain rfl := Option.some.inj hk
      exact ⟨[], .nil, .inr ⟨by have := r.size; omega, c, el, fz, hc, fun i v hi => by simp at hi⟩⟩
    · rw [if_neg e] at hp hk
      exact (r'.ok p l' k hp hk).step hle rfl
  · rw [HP.get_new] at hk hk'
    unfold Phi.add at hp hp'
    by_cases e : p = h.nx
    · rw [if_pos e] at hk
      obtain rfl := Option.some.inj hk
      exact Bool.noConfusion (show false = true from hw)
    · rw [if_neg e] at hp hk
      by_cases e' : p' = h.nx
      · rw [if_pos e'] at hp'
        obtain rfl := Option.some.inj hp'
        have := (r.dom p l1 hp).2
        omega
      · rw [if_neg e'] at hp' hk'
        exact r'.inj p p' l1 l2 k k' hp hp' hk hk' hw hb
  · have : p ≠ h.nx := by intro e; subst e; omega
    exact ⟨by simp [Phi.add, this, hnp], by rw [HP.get_new, if_neg this]⟩
/-- A plain answer, whatever is left behind. -/
theorem call_plain {P : Program} {t : ST} (hP : P.follows .mixedOrders = true) (ht : ST.Ok P t) {n f : Nat} {xs : List AV} {v : AV} (h1 : plains xs = true) (h2 : plain v = true) (h3 : ∀ h, emb h v [] = some (v, h)) (h4 : ∃ h2, SF t n f xs Rho.g0 .no = some (.ret v h2, .no)) {w0 w : World} {φ : Phi} {h : HP} (r : Rel w0 φ h w) {vs : List Value} (hv : RVs φ vs xs) : Calls P f vs.toArray w (FinR w0 φ h w (.ret v h)) := by
  obtain ⟨hh, h5⟩ := h4
  refine Calls.mono (calls_ok hP (ST.xok w ht) (ST.tab_ok ht) (SF_ok ht n _ _ _ _ _ h5) (rel_start (GB.on r)) (hv.plain h1)) fun ed w' hR => ?_
  cases ed with
  | returned y =>
    obtain ⟨φ', a', h', hf, hr, r', _⟩ := hR
    simp only [Fin.ret.injEq] at hf
    obtain ⟨rfl, rfl⟩ := hf
    have lf : Go.Proofs.YtlfhnopganplfaaGreatDoor.Ev.Left w w' φ' y v [] := ⟨hr, fun i k l hi => by simp at hi, fun i j l l' hi => by simp at hi⟩
    obtain ⟨χ, g1, g2, g3⟩ := lf.over r r' (h3 h)
    exact ⟨χ, _, _, rfl, g1, g2, g3⟩
  | panicked ch => obtain ⟨_, _, _, hf, _⟩ := hR; simp at hf
  | outgrown => exact hR.elim
/-- A slice in a new block, of which only its length is told. -/
theorem call_slice {P : Program} {t : ST} (hP : P.follows .mixedOrders = true) (ht : ST.Ok P t) {n f N : Nat} {xs : List AV} {a b : Nat} (h1 : plains xs = true) (h4 : ∃ h2 c vs, SF t n f xs Rho.g0 .no = some (.ret (.tup [.slice c 0 N (.spare 3), iv a, iv b]) h2, .no) ∧ HP.get h2 c = some (.cells true vs)) {w0 w : World} {φ : Phi} {h : HP} (r : Rel w0 φ h w) {vs : List Value} (hv : RVs φ vs xs) :
    Calls P f vs.toArray w (FinR w0 φ h w (.ret (.tup [.slice (HP.nxQ h) 0 N .unk, iv a, iv b]) (HP.newQ h (.cells false [])))) := by
  obtain ⟨hh, c, us, h5, h6⟩ := h4
  refine Calls.mono (calls_ok hP (ST.xok w ht) (ST.tab_ok ht) (SF_ok ht n _ _ _ _ _ h5) (rel_start (GB.on r)) (hv.plain h1)) fun ed w' hR => ?_
  cases ed with
  | returned y =>
    obtain ⟨φ', a', h', hf, hr, r', _⟩ := hR
    simp only [Fin.ret.injEq] at hf
    obtain ⟨rfl, rfl⟩ := hf
    cases hr with
    | tup ys _ hys =>
      obtain ⟨ys⟩ := ys
      cases hys with
      | cons y1 _ ys1 _ k1 ks1 =>
        cases ks1 with
        | cons y2 _ ys2 _ k2 ks2 =>
          cases ks2 with
          | cons y3 _ ys3 _ k3 ks3 =>
            cases ks3
            cases k1 with
            | slice _ _ _ cap _ l hl hle he hs =>
              obtain ⟨hge, _, cc, el, hrow, _, _⟩ := r'.ok _ _ _ hl h6
              have bl : Go.RowKit.Below w.heap.size w w' := ⟨r'.os, r'.tape, r'.output, r'.size, r'.old⟩
              obtain ⟨r2, x2⟩ := Go.Proofs.YtlfhnopganplfaaGreatDoor.Lx.Rel.bornL r bl hge hrow
              rw [HP.newQ_eq, HP.nxQ_eq]
              refine ⟨_, _, _, rfl, .tup _ _ (.cons _ _ _ _ (.slice _ 0 N cap .unk l (by simp [Phi.add]) hle (fun k e => by cases e) (fun z e => by cases e)) (.cons _ _ _ _ ?_ (.cons _ _ _ _ ?_ .nil))), r2, x2⟩
              · obtain rfl := (k2.int_inv (tokF_nat _ _)).1
                exact .int _ _ (InR.nn (by decide))
              · obtain rfl := (k3.int_inv (tokF_nat _ _)).1
                exact .int _ _ (InR.nn (by decide))
  | panicked ch => obtain ⟨_, _, _, hf, _⟩ := hR; simp at hf
  | outgrown => exact hR.elim
end
def tabQ : ST := .node 6 tabA (.node 7 (.pr 7 lexQ) tabA)
theorem okQ (m : Int) (lf : Ev.VL) : letI := rhoV m lf rfl; ST.Ok Tryz.prog tabQ := by
  letI := rhoV m lf rfl
  refine .node _ _ _ (okA m lf) (.node _ _ _ (.pr _ _ fun w0 => ⟨⟨_, Tryz.func7, by kernel_rfl, by decide +kernel⟩, fun xs x φ h w vs hx r hv => ?_⟩) (okA m lf))
  unfold lexQ at hx
  split at hx
  · rename_i s
    by_cases q : 8192 < s.length
    · rw [if_pos q] at hx
      obtain rfl := Option.some.inj hx
      exact call_plain (n := 3002) (by kernel_rfl) (okP m lf) rfl rfl (fun _ => rfl) (lex_long m q) r hv
    · rw [if_neg q] at hx
      by_cases q2 : ∃ b, s = txt (s.count 59) b
      · rw [if_pos q2] at hx
        obtain ⟨b, e⟩ := q2
        generalize s.count 59 = n at hx e
        subst e
        rw [txt_len] at q
        by_cases q3 : 2500 < n
        · rw [if_pos q3] at hx
          obtain rfl := Option.some.inj hx
          exact call_plain (n := 3002) (by kernel_rfl) (okP m lf) rfl rfl (fun _ => rfl) (lex_full m q3 (by omega)) r hv
        · rw [if_neg q3] at hx
          obtain rfl := Option.some.inj hx
          exact call_slice (n := 3002) (by kernel_rfl) (okP m lf) rfl (lex_many m (by omega) (by omega)) r hv
      · rw [if_neg q2] at hx; simp at hx
  · simp at hx
end
end Go.Proofs.YtlfhnopganplfaaGreatDoor.Lx
