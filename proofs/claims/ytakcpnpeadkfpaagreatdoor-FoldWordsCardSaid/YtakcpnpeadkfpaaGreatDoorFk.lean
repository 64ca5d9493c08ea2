/- FoldWords: the eleven rounds. -/
import Derived.Test.YtakcpnpeadkfpaaGreatDoorFj
set_option linter.unusedVariables false
set_option linter.unusedSimpArgs false
set_option linter.unusedSectionVars false
set_option maxRecDepth 100000
namespace Go.Proofs.YtakcpnpeadkfpaaGreatDoor.Lw
open Go Go.Proofs.YtakcpnpeadkfpaaGreatDoor.Lg Go.Proofs.YtakcpnpeadkfpaaGreatDoor.Ev Go.Proofs.YtakcpnpeadkfpaaGreatDoor.Sx Go.Proofs.YtakcpnpeadkfpaaGreatDoor.Ra
section
variable (m : Int) (a b : Nat)
/-- What a round leaves in the temporaries that count. -/
def Zs (k : LN) (v : Nat) : Prop := T.get (posOf 0) (u12 m a b k v).fr = some (wv a) ∧ T.get (posOf 1) (u12 m a b k v).fr = some (wv b) ∧ T.get (posOf 4) (u12 m a b k v).fr = some (.bool false) ∧ T.get (posOf 5) (u12 m a b k v).fr = some (.ptr (HP.nxQ (gH m)) 0) ∧ T.get (posOf 6) (u12 m a b k v).fr = some (.ptr (HP.nxQ (h2a m a)) 0) ∧ (u12 m a b k v).df = []
theorem zz_0 : Zs m a b [43] 1 := ⟨by kernel_rfl, by kernel_rfl, by kernel_rfl, by kernel_rfl, by kernel_rfl, by kernel_rfl⟩
theorem zz_1 : Zs m a b [45] 2 := ⟨by kernel_rfl, by kernel_rfl, by kernel_rfl, by kernel_rfl, by kernel_rfl, by kernel_rfl⟩
theorem zz_2 : Zs m a b [42] 11 := ⟨by kernel_rfl, by kernel_rfl, by kernel_rfl, by kernel_rfl, by kernel_rfl, by kernel_rfl⟩
theorem zz_3 : Zs m a b [47] 14 := ⟨by kernel_rfl, by kernel_rfl, by kernel_rfl, by kernel_rfl, by kernel_rfl, by kernel_rfl⟩
theorem zz_4 : Zs m a b [37] 16 := ⟨by kernel_rfl, by kernel_rfl, by kernel_rfl, by kernel_rfl, by kernel_rfl, by kernel_rfl⟩
theorem zz_5 : Zs m a b [60, 60] 3 := ⟨by kernel_rfl, by kernel_rfl, by kernel_rfl, by kernel_rfl, by kernel_rfl, by kernel_rfl⟩
theorem zz_6 : Zs m a b [62, 62] 8 := ⟨by kernel_rfl, by kernel_rfl, by kernel_rfl, by kernel_rfl, by kernel_rfl, by kernel_rfl⟩
theorem zz_7 : Zs m a b [38] 10 := ⟨by kernel_rfl, by kernel_rfl, by kernel_rfl, by kernel_rfl, by kernel_rfl, by kernel_rfl⟩
theorem zz_8 : Zs m a b [124] 9 := ⟨by kernel_rfl, by kernel_rfl, by kernel_rfl, by kernel_rfl, by kernel_rfl, by kernel_rfl⟩
theorem zz_9 : Zs m a b [94] 6 := ⟨by kernel_rfl, by kernel_rfl, by kernel_rfl, by kernel_rfl, by kernel_rfl, by kernel_rfl⟩
theorem zz_10 : Zs m a b [60] 4 := ⟨by kernel_rfl, by kernel_rfl, by kernel_rfl, by kernel_rfl, by kernel_rfl, by kernel_rfl⟩
/-- What is wanted of a round. -/
structure Rd (k : LN) (v : Nat) : Prop where
  r1 : ev (q1 cR) (sB m a b k v) = some (.normal (t1 m a b k v))
  r2 : ev (q1 (q2 cR)) (t1 m a b k v) = some (.normal (t2 m a b k v))
  r3 : ev (q1 (q2 (q2 cR))) (t2 m a b k v) = some (.normal (u12 m a b k v))
  zs : Zs m a b k v
  z25 : T.get (posOf 25) (u12 m a b k v).fr = some (.ptr (HP.nxQ (h2b m a b)) 0)
  z56 : T.get (posOf 56) (u12 m a b k v).fr = some (.bool false)
theorem rd_0 : Rd m a b [43] 1 := ⟨r1_0 m a b, r2_0 m a b, r3_of m _ _ (q10_0 m a b) (q11_0 m a b) (q12_0 m a b), zz_0 m a b, z25_0 m a b, z_0 m a b⟩
theorem rd_1 : Rd m a b [45] 2 := ⟨r1_1 m a b, r2_1 m a b, r3_of m _ _ (q10_1 m a b) (q11_1 m a b) (q12_1 m a b), zz_1 m a b, z25_1 m a b, z_1 m a b⟩
theorem rd_2 : Rd m a b [42] 11 := ⟨r1_2 m a b, r2_2 m a b, r3_of m _ _ (q10_2 m a b) (q11_2 m a b) (q12_2 m a b), zz_2 m a b, z25_2 m a b, z_2 m a b⟩
theorem rd_3 : Rd m a b [47] 14 := ⟨r1_3 m a b, r2_3 m a b, r3_of m _ _ (q10_3 m a b) (q11_3 m a b) (q12_3 m a b), zz_3 m a b, z25_3 m a b, z_3 m a b⟩
theorem rd_4 : Rd m a b [37] 16 := ⟨r1_4 m a b, r2_4 m a b, r3_of m _ _ (q10_4 m a b) (q11_4 m a b) (q12_4 m a b), zz_4 m a b, z25_4 m a b, z_4 m a b⟩
theorem rd_5 : Rd m a b [60, 60] 3 := ⟨r1_5 m a b, r2_5 m a b, r3_of m _ _ (q10_5 m a b) (q11_5 m a b) (q12_5 m a b), zz_5 m a b, z25_5 m a b, z_5 m a b⟩
theorem rd_6 : Rd m a b [62, 62] 8 := ⟨r1_6 m a b, r2_6 m a b, r3_of m _ _ (q10_6 m a b) (q11_6 m a b) (q12_6 m a b), zz_6 m a b, z25_6 m a b, z_6 m a b⟩
theorem rd_7 : Rd m a b [38] 10 := ⟨r1_7 m a b, r2_7 m a b, r3_of m _ _ (q10_7 m a b) (q11_7 m a b) (q12_7 m a b), zz_7 m a b, z25_7 m a b, z_7 m a b⟩
theorem rd_8 : Rd m a b [124] 9 := ⟨r1_8 m a b, r2_8 m a b, r3_of m _ _ (q10_8 m a b) (q11_8 m a b) (q12_8 m a b), zz_8 m a b, z25_8 m a b, z_8 m a b⟩
theorem rd_9 : Rd m a b [94] 6 := ⟨r1_9 m a b, r2_9 m a b, r3_of m _ _ (q10_9 m a b) (q11_9 m a b) (q12_9 m a b), zz_9 m a b, z25_9 m a b, z_9 m a b⟩
theorem rd_10 : Rd m a b [60] 4 := ⟨r1_10 m a b, r2_10 m a b, r3_of m _ _ (q10_10 m a b) (q11_10 m a b) (q12_10 m a b), zz_10 m a b, z25_10 m a b, z_10 m a b⟩
theorem rd_all (p : LN × Nat) (h : p ∈ keys) : Rd m a b p.1 p.2 := by
  simp only [keys, List.mem_cons, List.not_mem_nil, or_false] at h
  rcases h with rfl | rfl | rfl | rfl | rfl | rfl | rfl | rfl | rfl | rfl | rfl
  · exact rd_0 m a b
  · exact rd_1 m a b
  · exact rd_2 m a b
  · exact rd_3 m a b
  · exact rd_4 m a b
  · exact rd_5 m a b
  · exact rd_6 m a b
  · exact rd_7 m a b
  · exact rd_8 m a b
  · exact rd_9 m a b
  · exact rd_10 m a b
end
end Go.Proofs.YtakcpnpeadkfpaaGreatDoor.Lw
