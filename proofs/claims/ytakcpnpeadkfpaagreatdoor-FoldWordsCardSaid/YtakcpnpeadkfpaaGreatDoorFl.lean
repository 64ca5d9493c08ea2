/- FoldWords: the loop, what is behind it, and the function. -/
import Derived.Test.YtakcpnpeadkfpaaGreatDoorFk
set_option linter.unusedVariables false
set_option linter.unusedSimpArgs false
set_option linter.unusedSectionVars false
set_option maxRecDepth 100000
namespace Go.Proofs.YtakcpnpeadkfpaaGreatDoor.Lw
open Go Go.Proofs.YtakcpnpeadkfpaaGreatDoor.Lg Go.Proofs.YtakcpnpeadkfpaaGreatDoor.Ev Go.Proofs.YtakcpnpeadkfpaaGreatDoor.Sx Go.Proofs.YtakcpnpeadkfpaaGreatDoor.Ra
section
variable [Rho]
theorem gb_rel {W w : World} (r : Rel W Rho.gphi Rho.g0 w) : GB w := by
  refine ⟨fun b l h => Nat.lt_of_lt_of_le (r.gb.2.1 b l h) r.size, fun b l k h hk => ?_⟩
  obtain ⟨vs, rfl⟩ := Rho.gro b k hk
  have hlt := r.gb.2.1 b l h
  obtain ⟨cs, hv, hc⟩ := r.gb.2.2 b l _ h hk
  refine ⟨cs, hv, .inl ⟨Nat.lt_of_lt_of_le hlt r.size, fun i v hi => ?_⟩⟩
  rcases hc with ⟨_, hc⟩ | ⟨hge, _⟩
  · have := hc i v hi
    simp only [World.cell?, r.old _ hlt] at this ⊢
    exact this
  · omega
/-- A box that holds a constant of a word. -/
def Box (w : World) (l : Ev.Loc) (n : Nat) : Prop := l.blk < w.heap.size ∧ ∃ cs : List Value, RVs Rho.gphi cs (Lc 1 n 0) ∧ ∀ i v, cs[i]? = some v → w.cell? ⟨l.blk, l.off + i, none⟩ = some v
theorem rv_loc {φ : Phi} {v : Value} {p : Pos} {o : Nat} (h : RV φ v (.ptr p o)) : ∃ l, φ p = some l := by cases h with | ptr _ _ l h => exact ⟨l, h⟩
theorem box_same {w w' : World} {l : Ev.Loc} {n : Nat} (h : Box w l n) (e : w'.heap[l.blk]? = w.heap[l.blk]?) (hs : w.heap.size ≤ w'.heap.size) : Box w' l n := by
  obtain ⟨h1, cs, hv, hc⟩ := h
  refine ⟨Nat.lt_of_lt_of_le h1 hs, cs, hv, fun i v hi => ?_⟩
  have := hc i v hi
  simp only [World.cell?, e] at this ⊢
  exact this
theorem lt_of_row {w : World} {i : Nat} {o : Obj} (h : w.heap[i]? = some o) : i < w.heap.size := by
  rcases Nat.lt_or_ge i w.heap.size with k | k
  · exact k
  · rw [Array.getElem?_eq_none k] at h; simp at h
theorem box_of {W w : World} {φ : Phi} {l : Ev.Loc} {n : Nat} (h : BlkOk W φ w l (.cells true (Lc 1 n 0))) : Box w l n := by
  obtain ⟨h1, h2, c, el, hc, hsz, hv⟩ := h
  refine ⟨lt_of_row hc, _, rvs_plain (by intro a ha; simp only [Lc, List.mem_cons, List.not_mem_nil, or_false] at ha; rcases ha with rfl | rfl | rfl | rfl | rfl <;> rfl) hv, fun i v hi => ?_⟩
  refine cell_of hc ?_
  rw [List.getElem?_take] at hi
  split at hi
  · rw [List.getElem?_drop] at hi
    simpa using hi
  · simp at hi
end
noncomputable def opsOf : Code → Array Oper | .region _ l _ => l | _ => #[]
noncomputable def l5 : List Oper := (opsOf (q1 (qb (qb cL)))).toList
noncomputable def l6 : List Oper := (opsOf (q1 (qb (q2 (q2 (qb (qb cL))))))).toList
noncomputable def hdO (l : List Oper) : Oper := match l with | o :: _ => o | [] => ⟨none, .next (.tmp 0) false, 0, "", #[], none⟩
theorem cL_is : cL = Code.block 0 (.loop (.seq (.region 5 #[hdO l5, hdO (l5.drop 1)] false) (.seq (.cond (.tmp 27) .skip (.exit 0)) (.block 1 (.seq (.region 6 #[hdO l6, hdO (l6.drop 1), hdO (l6.drop 2), hdO (l6.drop 3), hdO (l6.drop 4)] false) cR))))) := by kernel_rfl
theorem shape : Shape 0 25 26 27 28 29 30 7 8 (hdO l5) (hdO (l5.drop 1)) (hdO l6) (hdO (l6.drop 1)) (hdO (l6.drop 2)) (hdO (l6.drop 3)) (hdO (l6.drop 4)) :=
  ⟨⟨by kernel_rfl, by kernel_rfl, by kernel_rfl⟩, ⟨by kernel_rfl, by kernel_rfl, by kernel_rfl⟩, ⟨by kernel_rfl, by kernel_rfl, by kernel_rfl⟩, ⟨by kernel_rfl, by kernel_rfl, by kernel_rfl⟩, ⟨by kernel_rfl, by kernel_rfl, by kernel_rfl⟩, ⟨by kernel_rfl, by kernel_rfl, by kernel_rfl⟩, ⟨by kernel_rfl, by kernel_rfl, by kernel_rfl⟩, by decide⟩
section
variable (m : Int) (lf : Ev.Loc) {a b : Nat}
/-- What stands through the loop. -/
structure Inv (a b : Nat) (W : World) (lx ly : Ev.Loc) (r bm : Nat) (A : Act) (w : World) : Prop where
  tm : Tm a b lx ly r A
  rel : letI := rhoV m lf rfl; Rel W Rho.gphi Rho.g0 w
  bx : letI := rhoV m lf rfl; Box w lx a
  by' : letI := rhoV m lf rfl; Box w ly b
  lr : r < w.heap.size
  lb : bm < w.heap.size
theorem loop_ok (ha : a < 4294967296) (hb : b < 4294967296) {W w : World} {A : Act} {φ : Phi} (s : letI := rhoV m lf rfl; S0 W nt4 φ (s4 m a b) A w) :
    cL.wp Tryz.prog (fun ex A' w' => ex = .normal ∧ ∃ lx ly r bm, Inv m lf a b W lx ly r bm A' w') A w := by
  letI := rhoV m lf rfl
  have rv5 := s.fr.val _ _ (f5 m a b)
  have rv6 := s.fr.val _ _ (f6 m a b)
  have rv25 := s.fr.val _ _ (f25 m a b)
  obtain ⟨lx, hx⟩ : ∃ l, φ (pX m a b) = some l := rv_loc rv5
  obtain ⟨ly, hy⟩ : ∃ l, φ (pY m a b) = some l := rv_loc rv6
  obtain ⟨li, hi⟩ : ∃ l, φ (pI m a b) = some l := rv_loc rv25
  have kx := s.rel.ok _ _ _ hx (hX m a b)
  have ky := s.rel.ok _ _ _ hy (hY m a b)
  obtain ⟨gi, off0, lm, hm, hrow⟩ := s.rel.ok _ _ _ hi (hI m a b)
  obtain ⟨gm, ents, hmap, hrvp, hwf⟩ := s.rel.ok _ _ _ hm (hM m a b)
  have nxr : lx.blk ≠ li.blk := fun e => by
    have := s.rel.inj _ _ _ _ _ _ hx hi (hX m a b) (hI m a b) rfl e
    have h := hX m a b; rw [this, hI m a b] at h; exact Blk.noConfusion (Option.some.inj h)
  have nyr : ly.blk ≠ li.blk := fun e => by
    have := s.rel.inj _ _ _ _ _ _ hy hi (hY m a b) (hI m a b) rfl e
    have h := hY m a b; rw [this, hI m a b] at h; exact Blk.noConfusion (Option.some.inj h)
  have nmr : lm.blk ≠ li.blk := fun e => by
    have := s.rel.inj _ _ _ _ _ _ hm hi (hM m a b) (hI m a b) rfl e
    have h := hM m a b; rw [this, hI m a b] at h; exact Blk.noConfusion (Option.some.inj h)
  obtain ⟨r, o, z⟩ := li
  obtain rfl : o = 0 := off0
  have tm : Tm a b lx ly r A := tm_of m lf s.fr hx hy (.inr ⟨z, hi⟩) (df_nil (by have := s.df; rw [(hU m a b).1] at this; exact this)) (f0 m a b) (f1 m a b) (f4 m a b) (f5 m a b) (f6 m a b) (f25 m a b)
  have i0 : Inv m lf a b W lx ly r lm.blk A w := ⟨tm, rel_g s.rel, box_of kx, box_of ky, lt_of_row hrow, lt_of_row hmap⟩
  rw [cL_is]
  refine wp_mono (range_all shape nt4 (by decide) hwf nmr (Inv m lf a b W lx ly r lm.blk) (fun A w h => h.tm.sz) ?_ ?_ i0 tm.t25 hrow hmap) ?_
  · intro A w A' w' o h hs hz hd hw
    have t : Tm a b lx ly r A' := ⟨by rw [hz]; exact h.tm.sz, by rw [hs 0 (by decide)]; exact h.tm.t0, by rw [hs 1 (by decide)]; exact h.tm.t1, by rw [hs 4 (by decide)]; exact h.tm.t4, by rw [hs 5 (by decide)]; exact h.tm.t5, by rw [hs 6 (by decide)]; exact h.tm.t6, by rw [hs 25 (by decide)]; exact h.tm.t25, by rw [hd]; exact h.tm.df⟩
    rcases hw with rfl | tw
    · exact ⟨t, h.rel, h.bx, h.by', h.lr, h.lb⟩
    · exact ⟨t, rel_turn h.rel gi tw, box_same h.bx (by rw [tw.heap, if_neg nxr]) (by rw [tw.size]; exact Nat.le_refl _), box_same h.by' (by rw [tw.heap, if_neg nyr]) (by rw [tw.size]; exact Nat.le_refl _), by rw [tw.size]; exact h.lr, by rw [tw.size]; exact h.lb⟩
  · intro e he A w h hit hk hv
    obtain ⟨p, hp, rk, rv⟩ := rvp_mem hrvp e he
    obtain ⟨q, hq, rfl⟩ := List.mem_map.1 hp
    have d := rd_all m a b q hq
    obtain ⟨z0, z1, z4, z5, z6, zd⟩ := d.zs
    obtain ⟨cx, vx, kx⟩ := h.bx.2
    obtain ⟨cy, vy, ky⟩ := h.by'.2
    obtain ⟨ψ, rb, lb, bx, by', bi⟩ := base_of m lf a b (gb_rel h.rel) h.bx.1 h.by'.1 h.lr vx vy kx ky
    refine wp_mono (round m lf ha hb q.1 q.2 d.r1 d.r2 d.r3 z0 z1 z4 z5 z6 d.z25 d.z56 zd h.tm (by rw [hk]; exact rk) (by rw [hv]; exact rv) rb lb bx by' bi) ?_
    rintro ex A' w' ⟨rfl, t, φ', h', rl⟩
    exact ⟨rfl, ⟨t, rel_thru h.rel rl, box_same h.bx (rl.old _ h.bx.1) rl.size, box_same h.by' (rl.old _ h.by'.1) rl.size, Nat.lt_of_lt_of_le h.lr rl.size, Nat.lt_of_lt_of_le h.lb rl.size⟩, t.t25, rl.old _ h.lr, rl.old _ h.lb⟩
  · rintro ex A' w' ⟨rfl, h⟩
    exact ⟨rfl, lx, ly, r, lm.blk, h⟩
theorem e13 (ha : a < 4294967296) : ev (q1 (q2 (q2 cT))) (y2 m a b) = some (.normal (y7 m a b)) := by
  letI := rhoV 0 ⟨0, 0, 0⟩ rfl
  unfold ev
  rw [c13, evC_ops, ops13_is, evOps_app, e3]
  simp only [ob_some]
  rw [evOps_cons, e4, neg_law ha]
  simp only [ob_some]
  rw [evOps_app]
  have e5' : evOps call4 ((ops13.drop 11).take 6) ⟨T.set (vW (Int.ofNat 0)) (posOf 77) (y3 m a b).fr, (y3 m a b).h, [], .no⟩ = some (.normal (y5 m a b)) := e5 m a b
  rw [e5']
  simp only [ob_some]
  rw [evOps_cons, e6, xor_law ha]
  simp only [ob_some]
  have e7' : evOps call4 (ops13.drop 18) ⟨T.set (vW (Int.ofNat 4294967295)) (posOf 84) (y5 m a b).fr, (y5 m a b).h, [], .no⟩ = some (.normal (y7 m a b)) := e7 m a b
  rw [e7']
  rfl
theorem yd : (y7 m a b).df = [] := by kernel_rfl
theorem tail_ok (ha : a < 4294967296) (hb : b < 4294967296) {W w : World} {A : Act} {lx ly : Ev.Loc} {r bm : Nat} (h : Inv m lf a b W lx ly r bm A w) :
    cT.wp Tryz.prog (fun ex A' w' => ex = .ret ∧ A'.defers = [] ∧ A'.tmps.getD 4 undef = .bool true ∧ GrownO W w') A w := by
  letI := rhoV m lf rfl
  have hP : Tryz.prog.follows .mixedOrders = true := by kernel_rfl
  obtain ⟨cx, vx, kx⟩ := h.bx.2
  obtain ⟨cy, vy, ky⟩ := h.by'.2
  obtain ⟨ψ, rb, lb, bx, by', bi⟩ := base_of m lf a b (gb_rel h.rel) h.bx.1 h.by'.1 h.lr vx vy kx ky
  have s : S0 w nt4 ψ (y0 m a b) A w := ⟨frB m lf ha hb h.tm lb bx by' bi, rb, by rw [h.tm.df]; exact .nil, rfl⟩
  rw [cT_is]
  refine wp_seq (wp_mono (piece hP (okC4 m lf w) s (e1 m a b)) ?_)
  rintro e a1 w1 ⟨rfl, φ1, s1, l1⟩
  show (Code.seq _ _).wp Tryz.prog _ a1 w1
  refine wp_seq (wp_mono (piece hP (okC4 m lf w) s1 (e2 m a b)) ?_)
  rintro e a2 w2 ⟨rfl, φ2, s2, l2⟩
  show (Code.seq _ _).wp Tryz.prog _ a2 w2
  refine wp_seq (wp_mono (piece hP (okC4 m lf w) s2 (e13 m ha)) ?_)
  rintro e a3 w3 ⟨rfl, φ3, s3, l3⟩
  exact wp_ret ⟨rfl, df_nil (by have := s3.df; rw [yd] at this; exact this), rv_bool (s3.fr.val _ _ (v4 m a b)), grown_of (rel_thru h.rel s3.rel)⟩
/-- The function answers true. -/
theorem runW (ha : a < 4294967296) (hb : b < 4294967296) {w : World} (hg : letI := rhoV m lf rfl; GB w) : Calls Tryz.prog 4 #[.int .u32 (Int.ofNat a), .int .u32 (Int.ofNat b)] w fun e w' => e = .returned (.bool true) ∧ GrownO w w' := by
  letI := rhoV m lf rfl
  have hP : Tryz.prog.follows .mixedOrders = true := by kernel_rfl
  refine calls_of_wp Tryz.func4 body4 ?_
  have hv : RVs Rho.gphi [.int .u32 (Int.ofNat a), .int .u32 (Int.ofNat b)] [wv a, wv b] := .cons _ _ _ _ (.int _ _ (InR.nat (by omega))) (.cons _ _ _ _ (.int _ _ (InR.nat (by omega))) .nil)
  have fr := enter_fr (φ := Rho.gphi) (.refl _) hv nt4
  have s : S0 w nt4 Rho.gphi (s0 m a b) ⟨#[.int .u32 (Int.ofNat a), .int .u32 (Int.ofNat b)] ++ Array.replicate (Tryz.f4.ntmps - 2) undef, []⟩ w := ⟨fr, rel_start hg, .nil, rfl⟩
  refine wp_seq (wp_mono (piece hP (okC4 m lf w) s (g1 m a b)) ?_)
  rintro e a1 w1 ⟨rfl, φ1, s1, l1⟩
  show (Code.seq _ _).wp Tryz.prog _ a1 w1
  refine wp_seq (wp_mono (piece hP (okC4 m lf w) s1 (g2 m a b)) ?_)
  rintro e a2 w2 ⟨rfl, φ2, s2, l2⟩
  show (Code.seq _ _).wp Tryz.prog _ a2 w2
  refine wp_seq (wp_mono (piece hP (okC4 m lf w) s2 (g3 m a b)) ?_)
  rintro e a3 w3 ⟨rfl, φ3, s3, l3⟩
  show (Code.seq _ _).wp Tryz.prog _ a3 w3
  refine wp_seq (wp_seq (wp_mono (piece hP (okC4 m lf w) s3 (g4 m a b)) ?_))
  rintro e a4 w4 ⟨rfl, φ4, s4, l4⟩
  show cL.wp Tryz.prog _ a4 w4
  refine wp_mono (loop_ok m lf ha hb s4) ?_
  rintro e a5 w5 ⟨rfl, lx, ly, r, bm, h⟩
  show cT.wp Tryz.prog _ a5 w5
  refine wp_mono (tail_ok m lf ha hb h) ?_
  rintro e a6 w6 ⟨rfl, hd, ht, hgr⟩
  refine ⟨hd, .bool true, ?_, rfl, hgr⟩
  rw [results_eq, show Tryz.f4.results = #[.tmp 4] by kernel_rfl]
  simp [resOne, ht]
end
end Go.Proofs.YtakcpnpeadkfpaaGreatDoor.Lw
