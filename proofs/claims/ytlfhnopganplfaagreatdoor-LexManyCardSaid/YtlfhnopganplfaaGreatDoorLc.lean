/- Lexing: a text of one token, whatever it is. -/
import Derived.Test.YtlfhnopganplfaaGreatDoorLb
set_option linter.unusedVariables false
set_option linter.unusedSimpArgs false
set_option linter.unusedSectionVars false
set_option maxRecDepth 20000
namespace Go.Proofs.YtlfhnopganplfaaGreatDoor.Lx
open Go Go.Proofs.YtlfhnopganplfaaGreatDoor.Ev Go.Proofs.YtlfhnopganplfaaGreatDoor.Sx
noncomputable section
/-- A function at plain arguments that leaves few new things behind: in the place of its text. -/
theorem pr_gc [Rho] {P : Program} {t : ST} (hP : P.follows .mixedOrders = true) (ht : ST.Ok P t) {n f : Nat} (hc : Callable P f) {p : List AV → HP → Option (AV × HP)}
    (hp : ∀ xs h x, p xs h = some x → plains xs = true ∧ ∃ ks v bs, Go.Proofs.YtlfhnopganplfaaGreatDoor.Ev.distinct ks = true ∧ gc ks (SF t n f xs Rho.g0 .no) = some (v, bs) ∧ emb h v bs = some x) (w0 : World) : PrOk P w0 f p := by
  refine ⟨hc, fun xs x φ h w vs hx r hv => ?_⟩
  obtain ⟨h1, ks, v, bs, hd, hg, he⟩ := hp xs h x hx
  cases hs : SF t n f xs Rho.g0 .no with
  | none => rw [hs] at hg; simp [gc] at hg
  | some q =>
    obtain ⟨fin, u⟩ := q
    cases fin with
    | pan c h2 => rw [hs] at hg; cases u <;> simp [gc] at hg
    | ret a h2 =>
      cases u with
      | no =>
        rw [hs] at hg
        refine Calls.mono (calls_ok hP (ST.xok w ht) (ST.tab_ok ht) (SF_ok ht n _ _ _ _ _ hs) (rel_start (GB.on r)) (hv.plain h1)) fun ed w' hR => ?_
        cases ed with
        | returned y =>
          obtain ⟨φ', a', h', hf, hr, r', _⟩ := hR
          simp only [Fin.ret.injEq] at hf
          obtain ⟨rfl, rfl⟩ := hf
          obtain ⟨ψ, lf⟩ := left_of hd hr r' hg
          obtain ⟨χ, g1, g2, g3⟩ := lf.over r r' he
          exact ⟨χ, _, _, rfl, g1, g2, g3⟩
        | panicked ch => obtain ⟨_, _, _, hf, _⟩ := hR; simp at hf
        | outgrown => exact hR.elim
      | returning => rw [hs] at hg; simp [gc] at hg
      | panicking c => rw [hs] at hg; simp [gc] at hg
theorem gc_tr {ks : List Pos} {X Y : Res2} {r : Option (AV × List Blk)} (e : X = Y) (h : gc ks Y = r) : gc ks X = r := by rw [e]; exact h
def hpOf (r : Res2) : HP := match r with | some (.ret _ h, _) => h | some (.pan _ h, _) => h | _ => ⟨.h, .leaf⟩
def rt (h : HP) : Res2 := some (.ret .nilp h, .no)
section
variable (m : Int)
def hA : HP := HP.newQ (HP.newQ (HP.newQ (gH m) (.cells true [.nils])) (.cells true [(kI 0)])) (.cells true [(kI 0)])
def a2 : AV := .ptr (HP.nxQ (gH m)) 0
def a3 : AV := .ptr (HP.nxQ (HP.newQ (gH m) (.cells true [.nils]))) 0
def a4 : AV := .ptr (HP.nxQ (HP.newQ (HP.newQ (gH m) (.cells true [.nils])) (.cells true [(kI 0)]))) 0
def d9 : List ADef := [⟨9, [a2 m, a3 m, a4 m]⟩]
def hB : HP := hpOf (stoC (a3 m) (vI (Int.ofNat 0)) (hA m) rt)
abbrev Gx : Type := LN → AV → AV → AV → HP → List ADef → Res2
def lxK (D : CallD) (M : Nat) (g : Gx) (s : LN) (t2 t3 t4 : AV) (df : List ADef) : AV → HP → Res2 := fun t18 h28 => asI .i64 t18 fun t18a => stoC t3 (vI t18a) h28 fun h29 => g s t2 t3 t4 h29 df
def lxP (D : CallD) (t2 t3 t4 : AV) (df : List ADef) : Chain → HP → Res2 := fun ch gh => XFn.endOf x7 D (.panic ch ⟨(mkT [(p2, t2), (p3, t3), (p4, t4)]), gh, df, .no⟩)
/-- From a token to the gap behind it. -/
def lxT (s : LN) (t2 t3 t4 : AV) (full : HP → Res2) (k : Int → HP → Res2) : AV → HP → Res2 := fun t21 h17 =>
  stsC 3 (AV.ptr (HP.nxQ h17) 0) t21 (HP.newQ h17 (.cells true [(kI 0), (.str []), (kI 0)])) fun h19 =>
  cellC t2 h19 fun t22 =>
  lenC t22 fun vt23 => asI .i64 vt23 fun t23 =>
  br (eqQ t23 (Int.ofNat 2500)) (full h19) (
  cellC t2 h19 fun t26 =>
  cellsC 3 (AV.ptr (HP.nxQ h17) 0) h19 fun t27 =>
  obQ (evA (.bsl [(kI 0), (.str []), (kI 0)] 1 [⟨0, 3, (.c t27)⟩]) .leaf) fun r23 =>
  eff (.app 3 32 (.c t26) (.c (vkV r23.2 (HP.nxQ h19)))) (HP.newQ h19 r23.1) fun t29 h25 =>
  stoC t2 t29 h25 fun h26 =>
  ldI t3 h26 fun t30 =>
  ldS (AV.ptr (HP.nxQ h17) (Nat.add 0 1)) h26 fun t32 =>
  stoC t3 (vI (wrQ .i64 (addQ t30 (Int.ofNat (lenL t32))))) h26 fun h27 =>
  ldI t3 h27 fun t17 => k t17 h27)
def hT (K : Nat) (s : LN) : HP := HP.newQ (hB m) (.cells true [iv K, .str s, iv 0])
abbrev tokV (K : Nat) (s : LN) : AV := .agg [iv K, .str s, iv 0]
def hC (K : Nat) (s : LN) : HP := hpOf (lxT s (a2 m) (a3 m) (a4 m) rt (fun _ h => rt h) (tokV K s) (hT m K s))
def hD (K : Nat) (s : LN) (n : Nat) : HP := hpOf (stoC (a3 m) (iv n) (hC m K s) rt)
theorem E0 (D : CallD) (M : Nat) {s : LN} (hs : s.length ≤ 8192) : S7_2 D M s (gH m) = calC D 10 [vS s, vI (Int.ofNat 0)] (hA m) (lxK D M (S7_1 D M) s (a2 m) (a3 m) (a4 m) (d9 m)) (lxP D (a2 m) (a3 m) (a4 m) (d9 m)) := by
  unfold S7_2
  dsimp only
  rw [lenL_eq, lt_nat, decide_eq_false (by omega), br_f]
  rfl
theorem E2 (D : CallD) (M : Nat) (s : LN) (g : Gx) : lxK D M g s (a2 m) (a3 m) (a4 m) (d9 m) (iv 0) (hA m) = g s (a2 m) (a3 m) (a4 m) (hB m) (d9 m) := by kernel_rfl
theorem E3 (D : CallD) (M c : Nat) (l : LN) (g : Gx) : S7_1b D M g (c :: l) (a2 m) (a3 m) (a4 m) (hB m) (d9 m) = calC D 11 [vS (c :: l), vI (Int.ofNat 0)] (hB m)
    (lxT (c :: l) (a2 m) (a3 m) (a4 m) (fun h19 => ldI (a3 m) h19 fun t25 =>
       stoC (a2 m) (.nils : AV) h19 fun h20 =>
       br (againE (.store q2 (.c .nils)) [⟨none, .cell q3, p25⟩] (mkT [(p2, (a2 m)), (p25, (vI t25)), (p3, (a3 m))]) h20) (
       stoC (a3 m) (vI t25) h20 fun h21 =>
       stoC (a4 m) (vI (Int.ofNat 5)) h21 fun h22 =>
       XFn.endOf x7 D (.ret ⟨(mkT [(p2, (a2 m)), (p3, (a3 m)), (p4, (a4 m))]), h22, (d9 m), .no⟩)) none)
      (fun t17 h27 => calC D 10 [vS (c :: l), vI t17] h27 (lxK D M g (c :: l) (a2 m) (a3 m) (a4 m) (d9 m)) (lxP D (a2 m) (a3 m) (a4 m) (d9 m)))) (lxP D (a2 m) (a3 m) (a4 m) (d9 m)) := by kernel_rfl
theorem E4 (K : Nat) (s : LN) (full : HP → Res2) (k : Int → HP → Res2) : lxT s (a2 m) (a3 m) (a4 m) full k (tokV K s) (hT m K s) = k (wrQ .i64 (addQ (Int.ofNat 0) (Int.ofNat (lenL s)))) (hC m K s) := by kernel_rfl
theorem E5 (D : CallD) (M K n : Nat) (s : LN) (g : Gx) : lxK D M g s (a2 m) (a3 m) (a4 m) (d9 m) (iv n) (hC m K s) = g s (a2 m) (a3 m) (a4 m) (hD m K s n) (d9 m) := by kernel_rfl
theorem l3 (K n : Nat) (s : LN) (F : Int → Res2) : ldI (a3 m) (hD m K s n) F = F (Int.ofNat n) := by kernel_rfl
theorem E6 (D : CallD) (M K : Nat) (s : LN) (g : Gx) : S7_1b D M g s (a2 m) (a3 m) (a4 m) (hD m K s s.length) (d9 m) = S7_0 D M s (a2 m) (a3 m) (a4 m) (hD m K s s.length) (d9 m) := by
  unfold S7_1b
  refine (l3 m K s.length s _).trans ?_
  dsimp only
  rw [lenL_eq, lt_nat, decide_eq_false (by omega), br_f]
def rX (K : Nat) (s : LN) (n : Nat) : Res2 := S7_0 (SF tabA 899) 899 s (a2 m) (a3 m) (a4 m) (hD m K s n) (d9 m)
def kX (K : Nat) (s : LN) (n : Nat) : Pos := match rX m K s n with | some (.ret (.tup (.slice b _ _ _ :: _)) _, _) => b | _ => .h
theorem E7 (K : Nat) (s : LN) (n : Nat) : gc [kX m K s n] (rX m K s n) = some (.tup [.slice .h 0 2 (.spare 3), iv 0, iv 0], [.cells true [iv K, .str s, iv 0, iv 0, .str [], vI (Int.ofNat (lenL s))]]) := by kernel_rfl
theorem find_lex : tabA.run 7 = S7 := by kernel_rfl
/-- One token, and the end. -/
theorem lex_ok {K c : Nat} {s l : LN} (e : s = c :: l) (hs : s.length ≤ 8192) (g0 : ∀ h, SF tabA 899 10 [.str s, iv 0] h .no = some (.ret (iv 0) h, .no)) (g1 : ∀ h, SF tabA 899 10 [.str s, iv s.length] h .no = some (.ret (iv s.length) h, .no))
    (tk : SF tabA 899 11 [.str s, iv 0] (hB m) .no = some (.ret (tokV K s) (hT m K s), .no)) :
    gc [kX m K s s.length] (SF tabA 900 7 [.str s] (gH m) .no) = some (.tup [.slice .h 0 2 (.spare 3), iv 0, iv 0], [.cells true [iv K, .str s, iv 0, iv 0, .str [], iv s.length]]) := by
  rw [show SF tabA 900 7 [.str s] (gH m) .no = S7_2 (SF tabA 899) 899 s (gH m) from by rw [SF_succ, find_lex]; rfl]
  refine gc_tr (E0 m _ _ hs) ?_
  refine gc_tr (calC_of (g0 _) _ _) ?_
  refine gc_tr (E2 m _ _ _ _) ?_
  refine gc_tr (Y := S7_1b (SF tabA 899) 899 (nrec (fun _ _ _ _ _ _ => none) (fun _ g => S7_1b (SF tabA 899) 899 g) 898) s (a2 m) (a3 m) (a4 m) (hB m) (d9 m)) rfl ?_
  subst e
  refine gc_tr (E3 m _ _ _ _ _) ?_
  refine gc_tr (calC_of tk _ _) ?_
  refine gc_tr (E4 m _ _ _ _) ?_
  refine gc_tr (Y := calC (SF tabA 899) 10 [vS (c :: l), vI (Int.ofNat (c :: l).length)] (hC m K (c :: l)) _ _) (by rw [lenL_eq, add_nat, Nat.zero_add, wr_nat (by omega)]) ?_
  refine gc_tr (calC_of (g1 _) _ _) ?_
  refine gc_tr (E5 m _ _ _ _ _ _) ?_
  refine gc_tr (Y := S7_1b (SF tabA 899) 899 (nrec (fun _ _ _ _ _ _ => none) (fun _ g => S7_1b (SF tabA 899) 899 g) 897) (c :: l) (a2 m) (a3 m) (a4 m) (hD m K (c :: l) (c :: l).length) (d9 m)) rfl ?_
  refine gc_tr (E6 m _ _ _ _ _) ?_
  refine (E7 m K (c :: l) (c :: l).length).trans ?_
  rw [lenL_eq]
  rfl
/-- A token that is none. -/
theorem lex_bad {c : Nat} {s l : LN} {ch : Chain} {hp : HP} (e : s = c :: l) (hs : s.length ≤ 8192) (g0 : ∀ h, SF tabA 899 10 [.str s, iv 0] h .no = some (.ret (iv 0) h, .no))
    (tk : SF tabA 899 11 [.str s, iv 0] (hB m) .no = some (.pan ch hp, .no)) (fin : gc [] (lxP (SF tabA 899) (a2 m) (a3 m) (a4 m) (d9 m) ch hp) = some (.tup [.nils, iv 0, iv 10], [])) :
    gc [] (SF tabA 900 7 [.str s] (gH m) .no) = some (.tup [.nils, iv 0, iv 10], []) := by
  rw [show SF tabA 900 7 [.str s] (gH m) .no = S7_2 (SF tabA 899) 899 s (gH m) from by rw [SF_succ, find_lex]; rfl]
  refine gc_tr (E0 m _ _ hs) ?_
  refine gc_tr (calC_of (g0 _) _ _) ?_
  refine gc_tr (E2 m _ _ _ _) ?_
  refine gc_tr (Y := S7_1b (SF tabA 899) 899 (nrec (fun _ _ _ _ _ _ => none) (fun _ g => S7_1b (SF tabA 899) 899 g) 898) s (a2 m) (a3 m) (a4 m) (hB m) (d9 m)) rfl ?_
  subst e
  refine gc_tr (E3 m _ _ _ _ _) ?_
  refine gc_tr (calC_pan tk _ _) ?_
  exact fin
end
end
end Go.Proofs.YtlfhnopganplfaaGreatDoor.Lx
