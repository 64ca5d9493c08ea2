/- FoldWords: one round of the loop. -/
import Derived.Test.YtakcpnpeadkfpaaGreatDoorFq
set_option linter.unusedVariables false
set_option linter.unusedSimpArgs false
set_option linter.unusedSectionVars false
set_option maxRecDepth 100000
namespace Go.Proofs.YtakcpnpeadkfpaaGreatDoor.Lw
open Go Go.Proofs.YtakcpnpeadkfpaaGreatDoor.Lg Go.Proofs.YtakcpnpeadkfpaaGreatDoor.Ev Go.Proofs.YtakcpnpeadkfpaaGreatDoor.Sx Go.Proofs.YtakcpnpeadkfpaaGreatDoor.Ra
section
variable [Rho]
theorem rv_plain {φ ψ : Phi} {v : Value} {a : AV} (ha : (match a with | .int _ _ => true | .str _ => true | .bool _ => true | _ => false) = true) (h : RV φ v a) : RV ψ v a := by
  cases h with
  | bool b => exact .bool b
  | int k n h => exact .int k n h
  | tok i => exact .tok i
  | tok64 i h => exact .tok64 i h
  | str s l h => exact .str s l h
  | _ => exact Bool.noConfusion (show false = true from ha)
theorem rvs_plain {φ ψ : Phi} {xs : List AV} (ha : ∀ a ∈ xs, (match a with | .int _ _ => true | .str _ => true | .bool _ => true | _ => false) = true) : ∀ {vs : List Value}, RVs φ vs xs → RVs ψ vs xs := by
  induction xs with
  | nil => intro vs h; cases h; exact .nil
  | cons a xs ih => intro vs h; cases h with
    | cons v _ vs _ h hs => exact .cons _ _ _ _ (rv_plain (ha a (by simp)) h) (ih (fun b hb => ha b (by simp [hb])) hs)
theorem rv_wv {φ : Phi} {v : Value} {n : Nat} (h : RV φ v (wv n)) : v = .int .u32 (Int.ofNat n) := (h.int_inv (tokF_nat _ _)).1
theorem rv_bool {φ : Phi} {v : Value} {b : Bool} (h : RV φ v (.bool b)) : v = .bool b := by cases h; rfl
theorem rv_ptr {φ : Phi} {v : Value} {p : Pos} {o : Nat} {l : Ev.Loc} (h : RV φ v (.ptr p o)) (hl : φ p = some l) : v = .pointer (some ⟨l.blk, l.off + o, none⟩) := by
  cases h with
  | ptr _ _ l' h' => rw [hl] at h'; rw [Option.some.inj h']
theorem rvp_mem {φ : Phi} {es : List MapEntry} {xs : List (AV × AV)} (h : RVP φ es xs) : ∀ e ∈ es, ∃ p ∈ xs, RV φ e.key p.1 ∧ RV φ e.val p.2 := by
  induction h with
  | nil => intro e he; simp at he
  | cons e k v es xs hk hv hs ih =>
    intro x hx
    rcases List.mem_cons.1 hx with rfl | hx
    · exact ⟨_, List.mem_cons_self, hk, hv⟩
    · obtain ⟨p, hp, h⟩ := ih x hx; exact ⟨p, List.mem_cons_of_mem _ hp, h⟩
theorem outX_no (L : List AOper) (r : Out) : outX false L r = r := by cases r <;> rfl
/-- A region whose operations are known one by one. -/
theorem df_nil {φ : Phi} {ds : List Deferred} (h : DfRel φ ds []) : ds = [] := by cases h; rfl
end
section
variable (m : Int) (lf : Ev.Loc) {a b : Nat}
theorem tm_of {lx ly : Ev.Loc} {r : Nat} {φ : Phi} {A : Act} {fr : T AV} {px py pi : Pos} (h : letI := rhoV m lf rfl; FrRel φ nt4 A.tmps fr) (hx : φ px = some lx) (hy : φ py = some ly) (hi : φ pi = some ⟨r, 0, 0⟩ ∨ ∃ z, φ pi = some ⟨r, 0, z⟩) (df : A.defers = [])
    (z0 : T.get (posOf 0) fr = some (wv a)) (z1 : T.get (posOf 1) fr = some (wv b)) (z4 : T.get (posOf 4) fr = some (.bool false)) (z5 : T.get (posOf 5) fr = some (.ptr px 0)) (z6 : T.get (posOf 6) fr = some (.ptr py 0)) (z25 : T.get (posOf 25) fr = some (.ptr pi 0)) : Tm a b lx ly r A := by
  letI := rhoV m lf rfl
  obtain ⟨z, hi⟩ : ∃ z, φ pi = some ⟨r, 0, z⟩ := by rcases hi with h | h; exact ⟨0, h⟩; exact h
  exact ⟨h.size, rv_wv (h.val _ _ z0), rv_wv (h.val _ _ z1), rv_bool (h.val _ _ z4), rv_ptr (h.val _ _ z5) hx, rv_ptr (h.val _ _ z6) hy, rv_ptr (h.val _ _ z25) hi, df⟩
noncomputable def cN : Code := q2 (q2 (q2 cR))
noncomputable def qc : Code → Code | .cond _ x _ => x | c => c
theorem cR_is : cR = .seq (q1 cR) (.seq (q1 (q2 cR)) (.seq (q1 (q2 (q2 cR))) (.cond (.tmp 56) (qc cN) .skip))) := by kernel_rfl
theorem okC4 (w0 : World) : letI := rhoV m lf rfl; CallOk Tryz.prog w0 call4 := by
  letI := rhoV m lf rfl
  exact callS_ok (by kernel_rfl) (okF4 m lf) 900 w0
/-- The third piece, operation by operation. -/
theorem r3_of (k : LN) (v : Nat) (q10 : evOps call4 (ops9.take 10) (t2 m a b k v) = some (.normal (u10 m a b k v)))
    (q11 : stepO call4 o55 (u10 m a b k v) = ob (evP (.eqs 5 [(0, .int), (1, .int), (2, .int), (3, .str), (4, .int)] true (.c (Kc 1 (w4 m a b k v) 0)) (.c (Kc 1 (w4 m a b k v) 0))) .leaf) fun z => some (.normal ⟨T.set z (posOf 55) (u10 m a b k v).fr, (u10 m a b k v).h, [], .no⟩))
    (q12 : stepO call4 o56 (u11 m a b k v) = some (.normal (u12 m a b k v))) : ev (q1 (q2 (q2 cR))) (t2 m a b k v) = some (.normal (u12 m a b k v)) := by
  letI := rhoV 0 ⟨0, 0, 0⟩ rfl
  unfold ev
  rw [c9, evC_ops, ops9_is, evOps_app, q10]
  simp only [ob_some]
  rw [evOps_cons, q11, neqs_same]
  simp only [ob_some]
  rw [evOps_cons]
  have e : stepO call4 o56 ⟨T.set (.bool false) (posOf 55) (u10 m a b k v).fr, (u10 m a b k v).h, [], .no⟩ = some (.normal (u12 m a b k v)) := q12
  rw [e]
  rfl
/-- A round. -/
theorem round (ha : a < 4294967296) (hb : b < 4294967296) (k : LN) (v : Nat) (r1 : ev (q1 cR) (sB m a b k v) = some (.normal (t1 m a b k v))) (r2 : ev (q1 (q2 cR)) (t1 m a b k v) = some (.normal (t2 m a b k v))) (r3 : ev (q1 (q2 (q2 cR))) (t2 m a b k v) = some (.normal (u12 m a b k v)))
    (z0 : T.get (posOf 0) (u12 m a b k v).fr = some (wv a)) (z1 : T.get (posOf 1) (u12 m a b k v).fr = some (wv b)) (z4 : T.get (posOf 4) (u12 m a b k v).fr = some (.bool false)) (z5 : T.get (posOf 5) (u12 m a b k v).fr = some (.ptr (HP.nxQ (gH m)) 0)) (z6 : T.get (posOf 6) (u12 m a b k v).fr = some (.ptr (HP.nxQ (h2a m a)) 0)) (z25 : T.get (posOf 25) (u12 m a b k v).fr = some (.ptr (HP.nxQ (h2b m a b)) 0))
    (z56 : T.get (posOf 56) (u12 m a b k v).fr = some (.bool false)) (zd : (u12 m a b k v).df = [])
    {A : Act} {w : World} {lx ly : Ev.Loc} {r : Nat} (tm : Tm a b lx ly r A) {φ0 : Phi} (hk : letI := rhoV m lf rfl; RV φ0 (A.tmps.getD 7 undef) (.str k)) (hv : letI := rhoV m lf rfl; RV φ0 (A.tmps.getD 8 undef) (iv v))
    {φ : Phi} (hb0 : letI := rhoV m lf rfl; Rel w φ (h2 m a b) w) (hl : letI := rhoV m lf rfl; Rho.gphi.le φ) (hx : φ (HP.nxQ (gH m)) = some lx) (hy : φ (HP.nxQ (h2a m a)) = some ly) (hi : φ (HP.nxQ (h2b m a b)) = some ⟨r, 0, 0⟩) :
    cR.wp Tryz.prog (fun ex a' w' => ex = .normal ∧ Tm a b lx ly r a' ∧ letI := rhoV m lf rfl; ∃ φ' h', Rel w φ' h' w') A w := by
  letI := rhoV m lf rfl
  have hP : Tryz.prog.follows .mixedOrders = true := by kernel_rfl
  have s : S0 w nt4 φ (sB m a b k v) A w := ⟨fr_add (fr_add (frB m lf ha hb tm hl hx hy hi) (rv_plain rfl hk)) (rv_plain rfl hv), hb0, by rw [tm.df]; exact .nil, rfl⟩
  rw [cR_is]
  refine wp_seq (wp_mono (piece hP (okC4 m lf w) s r1) ?_)
  rintro e a1 w1 ⟨rfl, φ1, s1, l1⟩
  show (Code.seq _ _).wp Tryz.prog _ a1 w1
  refine wp_seq (wp_mono (piece hP (okC4 m lf w) s1 r2) ?_)
  rintro e a2 w2 ⟨rfl, φ2, s2, l2⟩
  show (Code.seq _ _).wp Tryz.prog _ a2 w2
  refine wp_seq (wp_mono (piece hP (okC4 m lf w) s2 r3) ?_)
  rintro e a3 w3 ⟨rfl, φ3, s3, l3⟩
  have l := (l1.trans l2).trans l3
  refine wp_cond_false (rv_bool (s3.fr.val _ _ z56)) (wp_skip ⟨rfl, tm_of m lf s3.fr (l _ _ hx) (l _ _ hy) (.inl (l _ _ hi)) (df_nil (by have := s3.df; rw [zd] at this; exact this)) z0 z1 z4 z5 z6 z25, φ3, _, s3.rel⟩)
end
end Go.Proofs.YtakcpnpeadkfpaaGreatDoor.Lw
