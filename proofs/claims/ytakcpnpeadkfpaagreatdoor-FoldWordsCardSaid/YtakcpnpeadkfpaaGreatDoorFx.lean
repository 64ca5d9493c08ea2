/- FoldWords: a round, and what is behind the loop. -/
import Derived.Test.YtakcpnpeadkfpaaGreatDoorFw
set_option linter.unusedVariables false
set_option linter.unusedSimpArgs false
set_option linter.unusedSectionVars false
set_option maxRecDepth 100000
namespace Go.Proofs.YtakcpnpeadkfpaaGreatDoor.Lw
open Go Go.Proofs.YtakcpnpeadkfpaaGreatDoor.Lg Go.Proofs.YtakcpnpeadkfpaaGreatDoor.Ev Go.Proofs.YtakcpnpeadkfpaaGreatDoor.Sx Go.Proofs.YtakcpnpeadkfpaaGreatDoor.Ra
section
variable (m : Int) (a b : Nat)
noncomputable def ptrOf (x : Option AV) : Pos := match x with | some (.ptr p _) => p | _ => .h
noncomputable def pI : Pos := ptrOf (T.get (posOf 25) (s4 m a b).fr)
noncomputable def pX : Pos := ptrOf (T.get (posOf 5) (s4 m a b).fr)
noncomputable def pY : Pos := ptrOf (T.get (posOf 6) (s4 m a b).fr)
noncomputable def pM : Pos := match HP.get (s4 m a b).h (pI m a b) with | some (.miter p _) => p | _ => .h
def keys : List (LN × Nat) := [([43], 1), ([45], 2), ([42], 11), ([47], 14), ([37], 16), ([60, 60], 3), ([62, 62], 8), ([38], 10), ([124], 9), ([94], 6), ([60], 4)]
theorem f0 : T.get (posOf 0) (s4 m a b).fr = some (wv a) := by kernel_rfl
theorem f1 : T.get (posOf 1) (s4 m a b).fr = some (wv b) := by kernel_rfl
theorem f4 : T.get (posOf 4) (s4 m a b).fr = some (.bool false) := by kernel_rfl
theorem f5 : T.get (posOf 5) (s4 m a b).fr = some (.ptr (pX m a b) 0) := by kernel_rfl
theorem f6 : T.get (posOf 6) (s4 m a b).fr = some (.ptr (pY m a b) 0) := by kernel_rfl
theorem f25 : T.get (posOf 25) (s4 m a b).fr = some (.ptr (pI m a b) 0) := by kernel_rfl
theorem hI : HP.get (s4 m a b).h (pI m a b) = some (.miter (pM m a b) 11) := by kernel_rfl
theorem hM : HP.get (s4 m a b).h (pM m a b) = some (.map (keys.map fun k => (.str k.1, iv k.2)) 11) := by kernel_rfl
theorem hX : HP.get (s4 m a b).h (pX m a b) = some (.cells true (Lc 1 a 0)) := by kernel_rfl
theorem hY : HP.get (s4 m a b).h (pY m a b) = some (.cells true (Lc 1 b 0)) := by kernel_rfl
theorem hU : (s4 m a b).df = [] ∧ (s4 m a b).u = .no := ⟨by kernel_rfl, by kernel_rfl⟩
noncomputable def h2a : HP := HP.newQ (gH m) (.cells false (Lc 1 a 0))
noncomputable def h2b : HP := HP.newQ (h2a m a) (.cells false (Lc 1 b 0))
noncomputable def h2 : HP := HP.newQ (h2b m a b) (.cells false [])
noncomputable def fB : T AV := T.set (.ptr (HP.nxQ (h2b m a b)) 0) (posOf 25) (T.set (.ptr (HP.nxQ (h2a m a)) 0) (posOf 6) (T.set (.ptr (HP.nxQ (gH m)) 0) (posOf 5) (T.set (.bool false) (posOf 4) (T.set (wv b) (posOf 1) (T.set (wv a) (posOf 0) .leaf)))))
noncomputable def sB (k : LN) (v : Nat) : St := ⟨T.set (iv v) (posOf 8) (T.set (.str k) (posOf 7) (fB m a b)), h2 m a b, [], .no⟩
noncomputable def t1 (k : LN) (v : Nat) : St := nx (sB m a b k v) (ev (q1 cR) (sB m a b k v))
noncomputable def t2 (k : LN) (v : Nat) : St := nx (sB m a b k v) (ev (q1 (q2 cR)) (t1 m a b k v))
theorem r1_0 : ev (q1 cR) (sB m a b [43] 1) = some (.normal (t1 m a b [43] 1)) := by kernel_rfl
theorem r2_0 : ev (q1 (q2 cR)) (t1 m a b [43] 1) = some (.normal (t2 m a b [43] 1)) := by kernel_rfl
theorem r1_1 : ev (q1 cR) (sB m a b [45] 2) = some (.normal (t1 m a b [45] 2)) := by kernel_rfl
theorem r2_1 : ev (q1 (q2 cR)) (t1 m a b [45] 2) = some (.normal (t2 m a b [45] 2)) := by kernel_rfl
theorem r1_2 : ev (q1 cR) (sB m a b [42] 11) = some (.normal (t1 m a b [42] 11)) := by kernel_rfl
theorem r2_2 : ev (q1 (q2 cR)) (t1 m a b [42] 11) = some (.normal (t2 m a b [42] 11)) := by kernel_rfl
theorem r1_3 : ev (q1 cR) (sB m a b [47] 14) = some (.normal (t1 m a b [47] 14)) := by kernel_rfl
theorem r2_3 : ev (q1 (q2 cR)) (t1 m a b [47] 14) = some (.normal (t2 m a b [47] 14)) := by kernel_rfl
theorem r1_4 : ev (q1 cR) (sB m a b [37] 16) = some (.normal (t1 m a b [37] 16)) := by kernel_rfl
theorem r2_4 : ev (q1 (q2 cR)) (t1 m a b [37] 16) = some (.normal (t2 m a b [37] 16)) := by kernel_rfl
theorem r1_5 : ev (q1 cR) (sB m a b [60, 60] 3) = some (.normal (t1 m a b [60, 60] 3)) := by kernel_rfl
theorem r2_5 : ev (q1 (q2 cR)) (t1 m a b [60, 60] 3) = some (.normal (t2 m a b [60, 60] 3)) := by kernel_rfl
theorem r1_6 : ev (q1 cR) (sB m a b [62, 62] 8) = some (.normal (t1 m a b [62, 62] 8)) := by kernel_rfl
theorem r2_6 : ev (q1 (q2 cR)) (t1 m a b [62, 62] 8) = some (.normal (t2 m a b [62, 62] 8)) := by kernel_rfl
theorem r1_7 : ev (q1 cR) (sB m a b [38] 10) = some (.normal (t1 m a b [38] 10)) := by kernel_rfl
theorem r2_7 : ev (q1 (q2 cR)) (t1 m a b [38] 10) = some (.normal (t2 m a b [38] 10)) := by kernel_rfl
theorem r1_8 : ev (q1 cR) (sB m a b [124] 9) = some (.normal (t1 m a b [124] 9)) := by kernel_rfl
theorem r2_8 : ev (q1 (q2 cR)) (t1 m a b [124] 9) = some (.normal (t2 m a b [124] 9)) := by kernel_rfl
theorem r1_9 : ev (q1 cR) (sB m a b [94] 6) = some (.normal (t1 m a b [94] 6)) := by kernel_rfl
theorem r2_9 : ev (q1 (q2 cR)) (t1 m a b [94] 6) = some (.normal (t2 m a b [94] 6)) := by kernel_rfl
theorem r1_10 : ev (q1 cR) (sB m a b [60] 4) = some (.normal (t1 m a b [60] 4)) := by kernel_rfl
theorem r2_10 : ev (q1 (q2 cR)) (t1 m a b [60] 4) = some (.normal (t2 m a b [60] 4)) := by kernel_rfl
noncomputable def ops9 : List AOper := match trCode Tryz.prog nt4 (q1 (q2 (q2 cR))) with | .ops _ l => l | _ => []
theorem c9 : trCode Tryz.prog nt4 (q1 (q2 (q2 cR))) = .ops false ops9 := by kernel_rfl
noncomputable def u10 (k : LN) (v : Nat) : St := nx (sB m a b k v) (evOps call4 (ops9.take 10) (t2 m a b k v))
noncomputable def o55 : AOper := match ops9.drop 10 with | o :: _ => o | [] => ⟨none, .bad, none, []⟩
noncomputable def o56 : AOper := match ops9.drop 11 with | o :: _ => o | [] => ⟨none, .bad, none, []⟩
theorem ops9_is : ops9 = ops9.take 10 ++ [o55, o56] := by kernel_rfl
noncomputable def wOf (x : Option AV) : Nat := match x with | some (.int _ (.ofNat n)) => n | _ => 0
noncomputable def w4 (k : LN) (v : Nat) : Nat := wOf (T.get (posOf 11) (t2 m a b k v).fr)
noncomputable def u11 (k : LN) (v : Nat) : St := ⟨T.set (.bool false) (posOf 55) (u10 m a b k v).fr, (u10 m a b k v).h, [], .no⟩
noncomputable def u12 (k : LN) (v : Nat) : St := nx (sB m a b k v) (stepO call4 o56 (u11 m a b k v))
theorem neqs_same (t w b : Nat) : evP (.eqs 5 [(0, .int), (1, .int), (2, .int), (3, .str), (4, .int)] true (.c (Kc t w b)) (.c (Kc t w b))) .leaf = some (.bool false) := by
  have e : evP (.eqs 5 [(0, .int), (1, .int), (2, .int), (3, .str), (4, .int)] true (.c (Kc t w b)) (.c (Kc t w b))) .leaf = ob (bif Nat.beq t t then (bif Nat.beq w w then (bif Nat.beq b b then some true else some false) else some false) else some false) fun c => some (AV.bool (c != true)) := by kernel_rfl
  rw [e, show Nat.beq t t = true by rw [Nat.beq_eq], show Nat.beq w w = true by rw [Nat.beq_eq], show Nat.beq b b = true by rw [Nat.beq_eq]]
  rfl
theorem q10_0 : evOps call4 (ops9.take 10) (t2 m a b [43] 1) = some (.normal (u10 m a b [43] 1)) := by kernel_rfl
theorem q11_0 : stepO call4 o55 (u10 m a b [43] 1) = ob (evP (.eqs 5 [(0, .int), (1, .int), (2, .int), (3, .str), (4, .int)] true (.c (Kc 1 (w4 m a b [43] 1) 0)) (.c (Kc 1 (w4 m a b [43] 1) 0))) .leaf) fun v => some (.normal ⟨T.set v (posOf 55) (u10 m a b [43] 1).fr, (u10 m a b [43] 1).h, [], .no⟩) := by kernel_rfl
theorem q12_0 : stepO call4 o56 (u11 m a b [43] 1) = some (.normal (u12 m a b [43] 1)) := by kernel_rfl
theorem z_0 : T.get (posOf 56) (u12 m a b [43] 1).fr = some (.bool false) := by kernel_rfl
theorem z25_0 : T.get (posOf 25) (u12 m a b [43] 1).fr = some (.ptr (HP.nxQ (h2b m a b)) 0) := by kernel_rfl
theorem q10_1 : evOps call4 (ops9.take 10) (t2 m a b [45] 2) = some (.normal (u10 m a b [45] 2)) := by kernel_rfl
theorem q11_1 : stepO call4 o55 (u10 m a b [45] 2) = ob (evP (.eqs 5 [(0, .int), (1, .int), (2, .int), (3, .str), (4, .int)] true (.c (Kc 1 (w4 m a b [45] 2) 0)) (.c (Kc 1 (w4 m a b [45] 2) 0))) .leaf) fun v => some (.normal ⟨T.set v (posOf 55) (u10 m a b [45] 2).fr, (u10 m a b [45] 2).h, [], .no⟩) := by kernel_rfl
theorem q12_1 : stepO call4 o56 (u11 m a b [45] 2) = some (.normal (u12 m a b [45] 2)) := by kernel_rfl
theorem z_1 : T.get (posOf 56) (u12 m a b [45] 2).fr = some (.bool false) := by kernel_rfl
theorem z25_1 : T.get (posOf 25) (u12 m a b [45] 2).fr = some (.ptr (HP.nxQ (h2b m a b)) 0) := by kernel_rfl
theorem q10_2 : evOps call4 (ops9.take 10) (t2 m a b [42] 11) = some (.normal (u10 m a b [42] 11)) := by kernel_rfl
theorem q11_2 : stepO call4 o55 (u10 m a b [42] 11) = ob (evP (.eqs 5 [(0, .int), (1, .int), (2, .int), (3, .str), (4, .int)] true (.c (Kc 1 (w4 m a b [42] 11) 0)) (.c (Kc 1 (w4 m a b [42] 11) 0))) .leaf) fun v => some (.normal ⟨T.set v (posOf 55) (u10 m a b [42] 11).fr, (u10 m a b [42] 11).h, [], .no⟩) := by kernel_rfl
theorem q12_2 : stepO call4 o56 (u11 m a b [42] 11) = some (.normal (u12 m a b [42] 11)) := by kernel_rfl
theorem z_2 : T.get (posOf 56) (u12 m a b [42] 11).fr = some (.bool false) := by kernel_rfl
theorem z25_2 : T.get (posOf 25) (u12 m a b [42] 11).fr = some (.ptr (HP.nxQ (h2b m a b)) 0) := by kernel_rfl
theorem q10_3 : evOps call4 (ops9.take 10) (t2 m a b [47] 14) = some (.normal (u10 m a b [47] 14)) := by kernel_rfl
theorem q11_3 : stepO call4 o55 (u10 m a b [47] 14) = ob (evP (.eqs 5 [(0, .int), (1, .int), (2, .int), (3, .str), (4, .int)] true (.c (Kc 1 (w4 m a b [47] 14) 0)) (.c (Kc 1 (w4 m a b [47] 14) 0))) .leaf) fun v => some (.normal ⟨T.set v (posOf 55) (u10 m a b [47] 14).fr, (u10 m a b [47] 14).h, [], .no⟩) := by kernel_rfl
theorem q12_3 : stepO call4 o56 (u11 m a b [47] 14) = some (.normal (u12 m a b [47] 14)) := by kernel_rfl
theorem z_3 : T.get (posOf 56) (u12 m a b [47] 14).fr = some (.bool false) := by kernel_rfl
theorem z25_3 : T.get (posOf 25) (u12 m a b [47] 14).fr = some (.ptr (HP.nxQ (h2b m a b)) 0) := by kernel_rfl
theorem q10_4 : evOps call4 (ops9.take 10) (t2 m a b [37] 16) = some (.normal (u10 m a b [37] 16)) := by kernel_rfl
theorem q11_4 : stepO call4 o55 (u10 m a b [37] 16) = ob (evP (.eqs 5 [(0, .int), (1, .int), (2, .int), (3, .str), (4, .int)] true (.c (Kc 1 (w4 m a b [37] 16) 0)) (.c (Kc 1 (w4 m a b [37] 16) 0))) .leaf) fun v => some (.normal ⟨T.set v (posOf 55) (u10 m a b [37] 16).fr, (u10 m a b [37] 16).h, [], .no⟩) := by kernel_rfl
theorem q12_4 : stepO call4 o56 (u11 m a b [37] 16) = some (.normal (u12 m a b [37] 16)) := by kernel_rfl
theorem z_4 : T.get (posOf 56) (u12 m a b [37] 16).fr = some (.bool false) := by kernel_rfl
theorem z25_4 : T.get (posOf 25) (u12 m a b [37] 16).fr = some (.ptr (HP.nxQ (h2b m a b)) 0) := by kernel_rfl
theorem q10_5 : evOps call4 (ops9.take 10) (t2 m a b [60, 60] 3) = some (.normal (u10 m a b [60, 60] 3)) := by kernel_rfl
theorem q11_5 : stepO call4 o55 (u10 m a b [60, 60] 3) = ob (evP (.eqs 5 [(0, .int), (1, .int), (2, .int), (3, .str), (4, .int)] true (.c (Kc 1 (w4 m a b [60, 60] 3) 0)) (.c (Kc 1 (w4 m a b [60, 60] 3) 0))) .leaf) fun v => some (.normal ⟨T.set v (posOf 55) (u10 m a b [60, 60] 3).fr, (u10 m a b [60, 60] 3).h, [], .no⟩) := by kernel_rfl
theorem q12_5 : stepO call4 o56 (u11 m a b [60, 60] 3) = some (.normal (u12 m a b [60, 60] 3)) := by kernel_rfl
theorem z_5 : T.get (posOf 56) (u12 m a b [60, 60] 3).fr = some (.bool false) := by kernel_rfl
theorem z25_5 : T.get (posOf 25) (u12 m a b [60, 60] 3).fr = some (.ptr (HP.nxQ (h2b m a b)) 0) := by kernel_rfl
theorem q10_6 : evOps call4 (ops9.take 10) (t2 m a b [62, 62] 8) = some (.normal (u10 m a b [62, 62] 8)) := by kernel_rfl
theorem q11_6 : stepO call4 o55 (u10 m a b [62, 62] 8) = ob (evP (.eqs 5 [(0, .int), (1, .int), (2, .int), (3, .str), (4, .int)] true (.c (Kc 1 (w4 m a b [62, 62] 8) 0)) (.c (Kc 1 (w4 m a b [62, 62] 8) 0))) .leaf) fun v => some (.normal ⟨T.set v (posOf 55) (u10 m a b [62, 62] 8).fr, (u10 m a b [62, 62] 8).h, [], .no⟩) := by kernel_rfl
theorem q12_6 : stepO call4 o56 (u11 m a b [62, 62] 8) = some (.normal (u12 m a b [62, 62] 8)) := by kernel_rfl
theorem z_6 : T.get (posOf 56) (u12 m a b [62, 62] 8).fr = some (.bool false) := by kernel_rfl
theorem z25_6 : T.get (posOf 25) (u12 m a b [62, 62] 8).fr = some (.ptr (HP.nxQ (h2b m a b)) 0) := by kernel_rfl
theorem q10_7 : evOps call4 (ops9.take 10) (t2 m a b [38] 10) = some (.normal (u10 m a b [38] 10)) := by kernel_rfl
theorem q11_7 : stepO call4 o55 (u10 m a b [38] 10) = ob (evP (.eqs 5 [(0, .int), (1, .int), (2, .int), (3, .str), (4, .int)] true (.c (Kc 1 (w4 m a b [38] 10) 0)) (.c (Kc 1 (w4 m a b [38] 10) 0))) .leaf) fun v => some (.normal ⟨T.set v (posOf 55) (u10 m a b [38] 10).fr, (u10 m a b [38] 10).h, [], .no⟩) := by kernel_rfl
theorem q12_7 : stepO call4 o56 (u11 m a b [38] 10) = some (.normal (u12 m a b [38] 10)) := by kernel_rfl
theorem z_7 : T.get (posOf 56) (u12 m a b [38] 10).fr = some (.bool false) := by kernel_rfl
theorem z25_7 : T.get (posOf 25) (u12 m a b [38] 10).fr = some (.ptr (HP.nxQ (h2b m a b)) 0) := by kernel_rfl
theorem q10_8 : evOps call4 (ops9.take 10) (t2 m a b [124] 9) = some (.normal (u10 m a b [124] 9)) := by kernel_rfl
theorem q11_8 : stepO call4 o55 (u10 m a b [124] 9) = ob (evP (.eqs 5 [(0, .int), (1, .int), (2, .int), (3, .str), (4, .int)] true (.c (Kc 1 (w4 m a b [124] 9) 0)) (.c (Kc 1 (w4 m a b [124] 9) 0))) .leaf) fun v => some (.normal ⟨T.set v (posOf 55) (u10 m a b [124] 9).fr, (u10 m a b [124] 9).h, [], .no⟩) := by kernel_rfl
theorem q12_8 : stepO call4 o56 (u11 m a b [124] 9) = some (.normal (u12 m a b [124] 9)) := by kernel_rfl
theorem z_8 : T.get (posOf 56) (u12 m a b [124] 9).fr = some (.bool false) := by kernel_rfl
theorem z25_8 : T.get (posOf 25) (u12 m a b [124] 9).fr = some (.ptr (HP.nxQ (h2b m a b)) 0) := by kernel_rfl
theorem q10_9 : evOps call4 (ops9.take 10) (t2 m a b [94] 6) = some (.normal (u10 m a b [94] 6)) := by kernel_rfl
theorem q11_9 : stepO call4 o55 (u10 m a b [94] 6) = ob (evP (.eqs 5 [(0, .int), (1, .int), (2, .int), (3, .str), (4, .int)] true (.c (Kc 1 (w4 m a b [94] 6) 0)) (.c (Kc 1 (w4 m a b [94] 6) 0))) .leaf) fun v => some (.normal ⟨T.set v (posOf 55) (u10 m a b [94] 6).fr, (u10 m a b [94] 6).h, [], .no⟩) := by kernel_rfl
theorem q12_9 : stepO call4 o56 (u11 m a b [94] 6) = some (.normal (u12 m a b [94] 6)) := by kernel_rfl
theorem z_9 : T.get (posOf 56) (u12 m a b [94] 6).fr = some (.bool false) := by kernel_rfl
theorem z25_9 : T.get (posOf 25) (u12 m a b [94] 6).fr = some (.ptr (HP.nxQ (h2b m a b)) 0) := by kernel_rfl
theorem q10_10 : evOps call4 (ops9.take 10) (t2 m a b [60] 4) = some (.normal (u10 m a b [60] 4)) := by kernel_rfl
theorem q11_10 : stepO call4 o55 (u10 m a b [60] 4) = ob (evP (.eqs 5 [(0, .int), (1, .int), (2, .int), (3, .str), (4, .int)] true (.c (Kc 1 (w4 m a b [60] 4) 0)) (.c (Kc 1 (w4 m a b [60] 4) 0))) .leaf) fun v => some (.normal ⟨T.set v (posOf 55) (u10 m a b [60] 4).fr, (u10 m a b [60] 4).h, [], .no⟩) := by kernel_rfl
theorem q12_10 : stepO call4 o56 (u11 m a b [60] 4) = some (.normal (u12 m a b [60] 4)) := by kernel_rfl
theorem z_10 : T.get (posOf 56) (u12 m a b [60] 4).fr = some (.bool false) := by kernel_rfl
theorem z25_10 : T.get (posOf 25) (u12 m a b [60] 4).fr = some (.ptr (HP.nxQ (h2b m a b)) 0) := by kernel_rfl
end
end Go.Proofs.YtakcpnpeadkfpaaGreatDoor.Lw
