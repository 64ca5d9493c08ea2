/- Functions, printed by a program of ours: their code, what they do, and that it is so. -/
import Derived.Test.YtdeeainihfnbdaaGreatDoorSp
set_option maxRecDepth 8000
set_option linter.unusedVariables false
namespace Go.Proofs.YtdeeainihfnbdaaGreatDoor.Sx
open Go Go.Proofs.YtdeeainihfnbdaaGreatDoor.Ev
set_option linter.unusedSectionVars false
noncomputable section
variable [Rho]
variable {D : CallD} {m : Nat} {E : XE}
/- 59 -/
def v59_0 : List Pos := [p1, p2, p3, p4]
def c59_0 : XC := (.seq (.ops true (XL.of [.L p32 (.cells 5 q1) .v, .L p34 (.cells 7 q4) .v, .o ⟨(some p33), (.call (.fn 60) [q32, (.c (.str [125]))]), none, [⟨none, .cells 7 q4, p34⟩]⟩ .v, .o ⟨none, (.e (.stores 5 q2 q33)), none, [⟨none, .cells 7 q4, p34⟩]⟩ .v, .ss 7 q3 q34])) (.s .ret))
def v59_2 : List Pos := [p1, p2, p3, p4]
def c59_2 : XC := (.block 1 (.sO [.P p20 (.build [(kI 0), .nils, .nils, (.str []), (kI 0), (kI 0), (kI 0)] []) .v, .al p5 (.new [(kI 0), .nils, .nils, (.str []), (kI 0), (kI 0), (kI 0)]), .ss 7 q5 q20] (.sO [.L p22 (.cells 5 q1) .v, .cl p23 97 [q22] .v, .mv p21 q23 .v, .P p24 (.ext q21 0) .v, .P p25 (.ext q21 1) .v, .ss 5 q1 q24, .ss 7 q5 q25] (.s (.oX [.fa p26 2 q4, .ld p27 q26 .v, .L p28 (.cells 7 q5) .v, .al p29 (.bsl [(kI 0), .nils, .nils, (.str []), (kI 0), (kI 0), (kI 0)] 1 [⟨0, 7, q28⟩]), .o ⟨(some p30), (.e (.app 7 96 q27 q29)), none, []⟩ .v, .fa p31 2 q4, .st q31 q30])))))
def c59_4 : XC := (.cond q19 (.s .skip) (.s (.exit 0)))
def l59_3 : XL := (XL.of [])
def v59_1 : List Pos := [p1, p2, p3, p4]
def c59_1b : XC := (.sj v59_2 (.opq false (XL.pre [.fa p12 3 q1, .ld p13 q12 tI, .bn p14 .eql q13 (ci 0) .b, .mv p15 q14 .b, .sp p15, .o ⟨(some p16), (.l (.cells 5 q1)), (some (p15, true)), []⟩ .v, .o ⟨(some p17), (.call (.fn 54) [q16, (.c (.str [125]))]), (some (p15, true)), []⟩ .b, .G p15 true p18 (.un .not q17) .b, .P p19 (.pick q15 q18 (cb false)) .b, .jn p15 [p1, p2, p3, p4, p19]] l59_3) c59_4) c59_2)
def c59_e : XC := (.sO [.al p1 (.box q0), .al p2 (.new [.nils, (kI 0), (kI 0), (kI 0), (kI 0)]), .al p3 (.new [(kI 0), .nils, .nils, (.str []), (kI 0), (kI 0), (kI 0)])] (.sO [.L p6 (.cells 5 q1) .v, .cl p7 28 [q6] .v, .P p8 (.field 2 1 false q7) tI, .P p9 (.build [(kI 0), .nils, .nils, (.str []), (kI 0), (kI 0), (kI 0)] [⟨0, 1, (ci 1)⟩, ⟨6, 1, q8⟩]) .v, .al p4 (.new [(kI 0), .nils, .nils, (.str []), (kI 0), (kI 0), (kI 0)]), .ss 7 q4 q9] (.sO [.L p10 (.cells 5 q1) .v, .cl p11 60 [q10, (.c (.str [123]))] .v, .ss 5 q1 q11] (.sj v59_0 (.block 0 (.loop v59_1 c59_1b)) c59_0))))
def x59 : XFn := ⟨[.v], false, [(.cells 5 p2), (.cells 7 p3)], c59_e⟩
def e59_0 (k t1 t2 t3 t4 h) := kN k [(p1, t1), (p2, t2), (p3, t3), (p4, t4)] h
def S59_0 (D : CallD) (m : Nat) (t1 t2 t3 t4 : AV) (h : HP) : Res2 :=
 cellsC 5 t1 h fun t32 =>
 cellsC 7 t4 h fun t34 =>
 cal D 60 [t32, (vS ([125] : LN))] h fun t33 h14 =>
 br (again [⟨none, .cells 7 q4, p34⟩] (mkT [(p34, t34), (p4, t4)]) h14) (
 stsC 5 t2 t33 h14 fun h15 =>
 br (againE (.stores 5 q2 q33) [⟨none, .cells 7 q4, p34⟩] (mkT [(p2, t2), (p34, t34), (p4, t4)]) h15) (
 stsC 7 t3 t34 h15 fun h16 =>
 cellsC 5 t2 h16 fun t2a =>
 cellsC 7 t3 h16 fun t3a =>
 some (.ret (.tup [t2a, t3a]) h16, .no)) none) none
def e59_2 (k t1 t2 t3 t4 h) := kN k [(p1, t1), (p2, t2), (p3, t3), (p4, t4)] h
def S59_2 (D : CallD) (m : Nat) (g1 : AV → AV → AV → AV → HP → Res2) (t1 t2 t3 t4 : AV) (h : HP) : Res2 :=
 let t20 := (AV.agg [(vI (Int.ofNat 0)), (.nils : AV), (.nils : AV), (vS ([] : LN)), (vI (Int.ofNat 0)), (vI (Int.ofNat 0)), (vI (Int.ofNat 0))])
 let t5 := AV.ptr (HP.nxQ h) 0
 let h17 := HP.newQ h (.cells true [(kI 0), .nils, .nils, (.str []), (kI 0), (kI 0), (kI 0)])
 stsC 7 t5 t20 h17 fun h18 =>
 cellsC 5 t1 h18 fun t22 =>
 cal D 97 [t22] h18 fun t23 h19 =>
 extC t23 0 fun t24 =>
 extC t23 1 fun t25 =>
 stsC 5 t1 t24 h19 fun h20 =>
 stsC 7 t5 t25 h20 fun h21 =>
 faC 2 t4 fun t26 =>
 cellC t26 h21 fun t27 =>
 cellsC 7 t5 h21 fun t28 =>
 obQ (evA (.bsl [(kI 0), .nils, .nils, (.str []), (kI 0), (kI 0), (kI 0)] 1 [⟨0, 7, (.c t28)⟩]) .leaf) fun r22 =>
 let t29 := vkV r22.2 (HP.nxQ h21)
 let h23 := HP.newQ h21 r22.1
 eff (.app 7 96 (.c t27) (.c t29)) h23 fun t30 h24 =>
 faC 2 t4 fun t31 =>
 stoC t31 t30 h24 fun h25 =>
 g1 t1 t2 t3 t4 h25
def e59_3 (k t1 t2 t3 t4 t19 h) := kN k [(p1, t1), (p2, t2), (p3, t3), (p4, t4), (p19, (vB t19))] h
def S59_3 (D : CallD) (m : Nat) (g1 : AV → AV → AV → AV → HP → Res2) (t1 t2 t3 t4 : AV) (t19 : Bool) (h : HP) : Res2 :=
 br t19 (
 S59_2 D m g1 t1 t2 t3 t4 h) (
 S59_0 D m t1 t2 t3 t4 h)
def e59_1 (k t1 t2 t3 t4 h) := kN k [(p1, t1), (p2, t2), (p3, t3), (p4, t4)] h
def S59_1b (D : CallD) (m : Nat) (g1 : AV → AV → AV → AV → HP → Res2) (t1 t2 t3 t4 : AV) (h : HP) : Res2 :=
 faC 3 t1 fun t12 =>
 ldI t12 h fun t13 =>
 let t14 := eqQ t13 (Int.ofNat 0)
 br t14 (
 cellsC 5 t1 h fun t16 =>
 cal D 54 [t16, (vS ([125] : LN))] h fun t17 h26 =>
 asB t17 fun t17a =>
 let t18 := !t17a
 S59_3 D m g1 t1 t2 t3 t4 t18 h26) (
 S59_3 D m g1 t1 t2 t3 t4 false h)
def S59_1 (D : CallD) (m : Nat) : AV → AV → AV → AV → HP → Res2 := nrec (fun _ _ _ _ _ => none) (fun _ g => S59_1b D m g) m
def e59_5 (k t0 h) := kN k [(p0, t0)] h
def S59_5 (D : CallD) (m : Nat) (t0 : AV) (h : HP) : Res2 :=
 let t1 := AV.ptr (HP.nxQ h) 0
 let h6 := HP.newQ h (.cells true (AV.cells t0))
 let t2 := AV.ptr (HP.nxQ h6) 0
 let h7 := HP.newQ h6 (.cells true [.nils, (kI 0), (kI 0), (kI 0), (kI 0)])
 let t3 := AV.ptr (HP.nxQ h7) 0
 let h8 := HP.newQ h7 (.cells true [(kI 0), .nils, .nils, (.str []), (kI 0), (kI 0), (kI 0)])
 cellsC 5 t1 h8 fun t6 =>
 cal D 28 [t6] h8 fun t7 h9 =>
 fldC 2 1 false t7 fun vt8 => asI .i64 vt8 fun t8 =>
 let t9 := (AV.agg [(vI (Int.ofNat 1)), (.nils : AV), (.nils : AV), (vS ([] : LN)), (vI (Int.ofNat 0)), (vI (Int.ofNat 0)), (vI t8)])
 let t4 := AV.ptr (HP.nxQ h9) 0
 let h10 := HP.newQ h9 (.cells true [(kI 0), .nils, .nils, (.str []), (kI 0), (kI 0), (kI 0)])
 stsC 7 t4 t9 h10 fun h11 =>
 cellsC 5 t1 h11 fun t10 =>
 cal D 60 [t10, (vS ([123] : LN))] h11 fun t11 h12 =>
 stsC 5 t1 t11 h12 fun h13 =>
 S59_1 D m t1 t2 t3 t4 h13
def S59 : SFn := fun D m args h u => nou u <| popV args fun t0 args => endA args (S59_5 D m t0 h)
theorem T59_0 (hE : FX x59 D m E) : S59_0 D m = e59_0 (E c59_0 []) := by unfold S59_0; rw [hE c59_0]; kernel_rfl
theorem T59_2 (hE : FX x59 D m E) (G1) : S59_2 D m (e59_1 G1) = e59_2 (E c59_2 [.lp v59_1 G1, .blk 0, .sj v59_0 c59_0]) := by unfold S59_2; rw [hE c59_2]; kernel_rfl
theorem T59_3 (hE : FX x59 D m E) (G1) : S59_3 D m (e59_1 G1) = e59_3 (E (.opq false l59_3 c59_4) [.sj v59_2 c59_2, .lp v59_1 G1, .blk 0, .sj v59_0 c59_0]) := by unfold S59_3; rw [T59_2 hE G1, T59_0 hE, hE (.opq false l59_3 c59_4)]; kernel_rfl
theorem T59_1b (hE : FX x59 D m E) (G1) : S59_1b D m (e59_1 G1) = e59_1 (E c59_1b [.lp v59_1 G1, .blk 0, .sj v59_0 c59_0]) := by unfold S59_1b; rw [T59_3 hE G1, hE c59_1b]; kernel_rfl
theorem T59_1 (hE : FX x59 D m E) : S59_1 D m = e59_1 (nrec (fun _ => none) (fun _ G1 st => E c59_1b [.lp v59_1 G1, .blk 0, .sj v59_0 c59_0] st) m) :=
  nrec_emb e59_1 (fun _ _ _ _ _ => none) (fun g => S59_1b D m g) (fun G1 st => E c59_1b [.lp v59_1 G1, .blk 0, .sj v59_0 c59_0] st) rfl (fun g => T59_1b hE g) m
theorem T59_5 (hE : FX x59 D m E) : S59_5 D m = e59_5 (E c59_e []) := by unfold S59_5; rw [T59_1 hE, hE c59_e]; kernel_rfl
theorem X59 : XTie S59 x59 := X_of fun D m E hE args h u => by unfold S59; rw [T59_5 hE]; kernel_rfl
/- 60 -/
def c60_e : XC := (.sO [.al p2 (.box q0), .al p4 (.new [.nils, (kI 0), (kI 0), (kI 0), (kI 0)])] (.seq (.seq (.oX [.L p5 (.cells 5 q2) .v, .mv p6 q1 .s, .cl p7 54 [q5, q6] .b]) (.cond q7 (.seq (.oX [.L p8 (.cells 5 q2) .v, .cl p9 55 [q8] .v, .ss 5 q4 q9]) .ret) .skip)) (.sO [.L p10 (.cells 5 q2) .v, .cl p11 96 [q10, (ci 11)] .v, .ss 5 q4 q11] (.s .ret))))
def x60 : XFn := ⟨[.v, .s], false, [(.cells 5 p4)], c60_e⟩
def e60_0 (k t0 t1 h) := kN k [(p0, t0), (p1, (vS t1))] h
def S60_0 (D : CallD) (m : Nat) (t0 : AV) (t1 : LN) (h : HP) : Res2 :=
 let t2 := AV.ptr (HP.nxQ h) 0
 let h1 := HP.newQ h (.cells true (AV.cells t0))
 let t4 := AV.ptr (HP.nxQ h1) 0
 let h2 := HP.newQ h1 (.cells true [.nils, (kI 0), (kI 0), (kI 0), (kI 0)])
 cellsC 5 t2 h2 fun t5 =>
 cal D 54 [t5, (vS t1)] h2 fun t7 h3 =>
 asB t7 fun t7a =>
 br t7a (
 cellsC 5 t2 h3 fun t8 =>
 cal D 55 [t8] h3 fun t9 h4 =>
 stsC 5 t4 t9 h4 fun h5 =>
 cellsC 5 t4 h5 fun t4a =>
 some (.ret t4a h5, .no)) (
 cellsC 5 t2 h3 fun t10 =>
 cal D 96 [t10, (vI (Int.ofNat 11))] h3 fun t11 h6 =>
 stsC 5 t4 t11 h6 fun h7 =>
 cellsC 5 t4 h7 fun t4a =>
 some (.ret t4a h7, .no))
def S60 : SFn := fun D m args h u => nou u <| popV args fun t0 args => popS args fun t1 args => endA args (S60_0 D m t0 t1 h)
theorem T60_0 (hE : FX x60 D m E) : S60_0 D m = e60_0 (E c60_e []) := by unfold S60_0; rw [hE c60_e]; kernel_rfl
theorem X60 : XTie S60 x60 := X_of fun D m E hE args h u => by unfold S60; rw [T60_0 hE]; kernel_rfl
/- 61 -/
def v61_0 : List Pos := [p1, p2, p5]
def c61_0 : XC := (.sO [.L p32 (.cells 5 q1) .v, .cl p33 60 [q32, (.c (.str [93]))] .v, .mv p34 q5 tI, .ss 5 q2 q33, .mv p3 q34 tI] (.s .ret))
def c61_e : XC := (.sO [.al p1 (.box q0), .al p2 (.new [.nils, (kI 0), (kI 0), (kI 0), (kI 0)]), .mv p3 (ci 0) tI] (.seq (.seq (.oX [.L p7 (.cells 5 q1) .v, .cl p8 54 [q7, (.c (.str [91]))] .b, .P p9 (.un .not q8) .b]) (.cond q9 (.seq (.oX [.L p10 (.cells 5 q1) .v, .ss 5 q2 q10, .mv p3 (ci 0) tI]) .ret) .skip)) (.sO [.L p11 (.cells 5 q1) .v, .cl p12 55 [q11] .v, .ss 5 q1 q12] (.sO [.L p13 (.cells 5 q1) .v, .al p4 (.new [.nils, (kI 0), (kI 0), (kI 0), (kI 0)]), .ss 5 q4 q13] (.sO [.mv p5 (ci 0) tI] (.sO [.L p15 (.cells 5 q1) .v, .cl p16 57 [q15, (ci 2)] .v, .mv p14 q16 .v, .P p17 (.ext q14 0) .v, .P p18 (.ext q14 1) .s, .ss 5 q1 q17, .mv p6 q18 .s] (.sj v61_0 (.sO [.fa p19 3 q1, .ld p20 q19 tI, .bn p21 .eql q20 (ci 0) .b] (.cond q21 (.sO [.mv p22 q6 .s, .cl p23 98 [q22] tI, .mv p5 q23 tI] (.sO [.mv p24 q5 tI, .bn p25 .lss q24 (ci 1) .b, .mv p26 q25 .b, .ge p26 (XL.of [.G p26 false p27 (.mov q5) tI, .G p26 false p28 (.bin .gtr q27 (ci 1000)) .b, .P p29 (.pick q26 (cb true) q28) .b]) p29 .b] (.cond q29 (.sO [.L p30 (.cells 5 q4) .v, .cl p31 96 [q30, (ci 1)] .v, .ss 5 q2 q31, .mv p3 (ci 0) tI] (.s .ret)) (.s .skip)))) (.s .skip))) c61_0)))))))
def x61 : XFn := ⟨[.v], false, [(.cells 5 p2), (.tmp p3)], c61_e⟩
def e61_0 (k t1 t2 t5 h) := kN k [(p1, t1), (p2, t2), (p5, (vI t5))] h
def S61_0 (D : CallD) (m : Nat) (t1 t2 : AV) (t5 : Int) (h : HP) : Res2 :=
 cellsC 5 t1 h fun t32 =>
 cal D 60 [t32, (vS ([93] : LN))] h fun t33 h12 =>
 stsC 5 t2 t33 h12 fun h13 =>
 cellsC 5 t2 h13 fun t2a =>
 some (.ret (.tup [t2a, (vI t5)]) h13, .no)
def e61_1 (k t0 h) := kN k [(p0, t0)] h
def S61_1 (D : CallD) (m : Nat) (t0 : AV) (h : HP) : Res2 :=
 let t1 := AV.ptr (HP.nxQ h) 0
 let h2 := HP.newQ h (.cells true (AV.cells t0))
 let t2 := AV.ptr (HP.nxQ h2) 0
 let h3 := HP.newQ h2 (.cells true [.nils, (kI 0), (kI 0), (kI 0), (kI 0)])
 cellsC 5 t1 h3 fun t7 =>
 cal D 54 [t7, (vS ([91] : LN))] h3 fun t8 h4 =>
 asB t8 fun t8a =>
 let t9 := !t8a
 br t9 (
 cellsC 5 t1 h4 fun t10 =>
 stsC 5 t2 t10 h4 fun h5 =>
 cellsC 5 t2 h5 fun t2a =>
 some (.ret (.tup [t2a, (vI (Int.ofNat 0))]) h5, .no)) (
 cellsC 5 t1 h4 fun t11 =>
 cal D 55 [t11] h4 fun t12 h6 =>
 stsC 5 t1 t12 h6 fun h7 =>
 cellsC 5 t1 h7 fun t13 =>
 let t4 := AV.ptr (HP.nxQ h7) 0
 let h8 := HP.newQ h7 (.cells true [.nils, (kI 0), (kI 0), (kI 0), (kI 0)])
 stsC 5 t4 t13 h8 fun h9 =>
 cellsC 5 t1 h9 fun t15 =>
 cal D 57 [t15, (vI (Int.ofNat 2))] h9 fun t16 h10 =>
 extC t16 0 fun t17 =>
 extC t16 1 fun vt18 => asS vt18 fun t18 =>
 stsC 5 t1 t17 h10 fun h11 =>
 let t19 := (AV.ptr (HP.nxQ h) (Nat.add 0 3))
 ldI t19 h11 fun t20 =>
 let t21 := eqQ t20 (Int.ofNat 0)
 br t21 (
 cal D 98 [(vS t18)] h11 fun t23 h14 =>
 asI .i64 t23 fun t23a =>
 let t25 := ltQ t23a (Int.ofNat 1)
 obB (brV t25 (
 some (vB true)) (
 let t28 := ltQ (Int.ofNat 1000) t23a
 some (vB t28))) fun t29 =>
 br t29 (
 cellsC 5 t4 h14 fun t30 =>
 cal D 96 [t30, (vI (Int.ofNat 1))] h14 fun t31 h15 =>
 stsC 5 t2 t31 h15 fun h16 =>
 cellsC 5 t2 h16 fun t2a =>
 some (.ret (.tup [t2a, (vI (Int.ofNat 0))]) h16, .no)) (
 S61_0 D m t1 t2 t23a h14)) (
 S61_0 D m t1 t2 (Int.ofNat 0) h11))
def S61 : SFn := fun D m args h u => nou u <| popV args fun t0 args => endA args (S61_1 D m t0 h)
theorem T61_0 (hE : FX x61 D m E) : S61_0 D m = e61_0 (E c61_0 []) := by unfold S61_0; rw [hE c61_0]; kernel_rfl
theorem T61_1 (hE : FX x61 D m E) : S61_1 D m = e61_1 (E c61_e []) := by unfold S61_1; rw [T61_0 hE, hE c61_e]; kernel_rfl
theorem X61 : XTie S61 x61 := X_of fun D m E hE args h u => by unfold S61; rw [T61_1 hE]; kernel_rfl
/- 62 -/
def v62_0 : List Pos := [p1, p2, p3, p4]
def c62_0 : XC := (.seq (.ops true (XL.of [.L p27 (.cells 5 q1) .v, .L p29 (.cells 8 q4) .v, .o ⟨(some p28), (.call (.fn 101) [q27]), none, [⟨none, .cells 8 q4, p29⟩]⟩ .v, .o ⟨none, (.e (.stores 5 q2 q28)), none, [⟨none, .cells 8 q4, p29⟩]⟩ .v, .ss 8 q3 q29])) (.s .ret))
def c62_e : XC := (.sO [.al p1 (.box q0), .al p2 (.new [.nils, (kI 0), (kI 0), (kI 0), (kI 0)]), .al p3 (.new [(kI 0), (.str []), (.str []), (.int .u32 (.ofNat 0)), (.int .u64 (.ofNat 0)), .nils, (kI 0), (kI 0)])] (.sO [.L p7 (.cells 5 q1) .v, .cl p8 100 [q7] .v, .cl p9 99 [q8, (ci 0)] .v, .mv p6 q9 .v, .P p10 (.ext q6 0) .v, .P p11 (.ext q6 1) .v, .al p4 (.new [(kI 0), (.str []), (.str []), (.int .u32 (.ofNat 0)), (.int .u64 (.ofNat 0)), .nils, (kI 0), (kI 0)]), .ss 5 q1 q10, .ss 8 q4 q11] (.sj v62_0 (.sO [.L p12 (.cells 5 q1) .v, .cl p13 54 [q12, (.c (.str [61]))] .b] (.cond q13 (.sO [.P p14 (.build [(kI 0), (.str []), (.str []), (.int .u32 (.ofNat 0)), (.int .u64 (.ofNat 0)), .nils, (kI 0), (kI 0)] []) .v, .al p5 (.new [(kI 0), (.str []), (.str []), (.int .u32 (.ofNat 0)), (.int .u64 (.ofNat 0)), .nils, (kI 0), (kI 0)]), .ss 8 q5 q14] (.sO [.L p16 (.cells 5 q1) .v, .cl p17 55 [q16] .v, .cl p18 62 [q17] .v, .mv p15 q18 .v, .P p19 (.ext q15 0) .v, .P p20 (.ext q15 1) .v, .ss 5 q1 q19, .ss 8 q5 q20] (.s (.oX [.L p21 (.cells 8 q4) .v, .L p22 (.cells 8 q5) .v, .al p23 (.bsl [(kI 0), (.str []), (.str []), (.int .u32 (.ofNat 0)), (.int .u64 (.ofNat 0)), .nils, (kI 0), (kI 0), (kI 0), (.str []), (.str []), (.int .u32 (.ofNat 0)), (.int .u64 (.ofNat 0)), .nils, (kI 0), (kI 0)] 2 [⟨0, 8, q21⟩, ⟨8, 8, q22⟩]), .fa p24 7 q4, .ld p25 q24 tI, .P p26 (.build [(kI 0), (.str []), (.str []), (.int .u32 (.ofNat 0)), (.int .u64 (.ofNat 0)), .nils, (kI 0), (kI 0)] [⟨0, 1, (ci 6)⟩, ⟨5, 1, q23⟩, ⟨7, 1, q25⟩]) .v, .ss 8 q4 q26])))) (.s .skip))) c62_0)))
def x62 : XFn := ⟨[.v], false, [(.cells 5 p2), (.cells 8 p3)], c62_e⟩
def e62_0 (k t1 t2 t3 t4 h) := kN k [(p1, t1), (p2, t2), (p3, t3), (p4, t4)] h
def S62_0 (D : CallD) (m : Nat) (t1 t2 t3 t4 : AV) (h : HP) : Res2 :=
 cellsC 5 t1 h fun t27 =>
 cellsC 8 t4 h fun t29 =>
 cal D 101 [t27] h fun t28 h10 =>
 br (again [⟨none, .cells 8 q4, p29⟩] (mkT [(p29, t29), (p4, t4)]) h10) (
 stsC 5 t2 t28 h10 fun h11 =>
 br (againE (.stores 5 q2 q28) [⟨none, .cells 8 q4, p29⟩] (mkT [(p2, t2), (p29, t29), (p4, t4)]) h11) (
 stsC 8 t3 t29 h11 fun h12 =>
 cellsC 5 t2 h12 fun t2a =>
 cellsC 8 t3 h12 fun t3a =>
 some (.ret (.tup [t2a, t3a]) h12, .no)) none) none
def e62_1 (k t0 h) := kN k [(p0, t0)] h
def S62_1 (D : CallD) (m : Nat) (t0 : AV) (h : HP) : Res2 :=
 let t1 := AV.ptr (HP.nxQ h) 0
 let h2 := HP.newQ h (.cells true (AV.cells t0))
 let t2 := AV.ptr (HP.nxQ h2) 0
 let h3 := HP.newQ h2 (.cells true [.nils, (kI 0), (kI 0), (kI 0), (kI 0)])
 let t3 := AV.ptr (HP.nxQ h3) 0
 let h4 := HP.newQ h3 (.cells true [(kI 0), (.str []), (.str []), (.int .u32 (.ofNat 0)), (.int .u64 (.ofNat 0)), .nils, (kI 0), (kI 0)])
 cellsC 5 t1 h4 fun t7 =>
 cal D 100 [t7] h4 fun t8 h5 =>
 cal D 99 [t8, (vI (Int.ofNat 0))] h5 fun t9 h6 =>
 extC t9 0 fun t10 =>
 extC t9 1 fun t11 =>
 let t4 := AV.ptr (HP.nxQ h6) 0
 let h7 := HP.newQ h6 (.cells true [(kI 0), (.str []), (.str []), (.int .u32 (.ofNat 0)), (.int .u64 (.ofNat 0)), .nils, (kI 0), (kI 0)])
 stsC 5 t1 t10 h7 fun h8 =>
 stsC 8 t4 t11 h8 fun h9 =>
 cellsC 5 t1 h9 fun t12 =>
 cal D 54 [t12, (vS ([61] : LN))] h9 fun t13 h13 =>
 asB t13 fun t13a =>
 br t13a (
 let t14 := (AV.agg [(vI (Int.ofNat 0)), (vS ([] : LN)), (vS ([] : LN)), (vW (Int.ofNat 0)), (AV.int .u64 (Int.ofNat 0)), (.nils : AV), (vI (Int.ofNat 0)), (vI (Int.ofNat 0))])
 let t5 := AV.ptr (HP.nxQ h13) 0
 let h14 := HP.newQ h13 (.cells true [(kI 0), (.str []), (.str []), (.int .u32 (.ofNat 0)), (.int .u64 (.ofNat 0)), .nils, (kI 0), (kI 0)])
 stsC 8 t5 t14 h14 fun h15 =>
 cellsC 5 t1 h15 fun t16 =>
 cal D 55 [t16] h15 fun t17 h16 =>
 cal D 62 [t17] h16 fun t18 h17 =>
 extC t18 0 fun t19 =>
 extC t18 1 fun t20 =>
 stsC 5 t1 t19 h17 fun h18 =>
 stsC 8 t5 t20 h18 fun h19 =>
 cellsC 8 t4 h19 fun t21 =>
 cellsC 8 t5 h19 fun t22 =>
 obQ (evA (.bsl [(kI 0), (.str []), (.str []), (.int .u32 (.ofNat 0)), (.int .u64 (.ofNat 0)), .nils, (kI 0), (kI 0), (kI 0), (.str []), (.str []), (.int .u32 (.ofNat 0)), (.int .u64 (.ofNat 0)), .nils, (kI 0), (kI 0)] 2 [⟨0, 8, (.c t21)⟩, ⟨8, 8, (.c t22)⟩]) .leaf) fun r20 =>
 let t23 := vkV r20.2 (HP.nxQ h19)
 let h21 := HP.newQ h19 r20.1
 let t24 := (AV.ptr (HP.nxQ h6) (Nat.add 0 7))
 ldI t24 h21 fun t25 =>
 obQ (evP (.build [(kI 0), (.str []), (.str []), (.int .u32 (.ofNat 0)), (.int .u64 (.ofNat 0)), .nils, (kI 0), (kI 0)] [⟨0, 1, (.c (vI (Int.ofNat 6)))⟩, ⟨5, 1, (.c t23)⟩, ⟨7, 1, (.c (vI t25))⟩]) .leaf) fun t26 =>
 stsC 8 t4 t26 h21 fun h22 =>
 S62_0 D m t1 t2 t3 t4 h22) (
 S62_0 D m t1 t2 t3 t4 h13)
def S62 : SFn := fun D m args h u => nou u <| popV args fun t0 args => endA args (S62_1 D m t0 h)
theorem T62_0 (hE : FX x62 D m E) : S62_0 D m = e62_0 (E c62_0 []) := by unfold S62_0; rw [hE c62_0]; kernel_rfl
theorem T62_1 (hE : FX x62 D m E) : S62_1 D m = e62_1 (E c62_e []) := by unfold S62_1; rw [T62_0 hE, hE c62_e]; kernel_rfl
theorem X62 : XTie S62 x62 := X_of fun D m E hE args h u => by unfold S62; rw [T62_1 hE]; kernel_rfl
/- 63 -/
def c63_e : XC := (.sO [.al p3 (.box q0), .al p4 (.box q1), .al p6 (.new [.nils, (kI 0), (kI 0), (kI 0), (kI 0), (kI 0), (kI 0)])] (.seq (.ops true (XL.of [.al p7 (.bsl [] 0 []), .fa p8 0 q3, .ld p9 q8 .v, .L p11 (.cells 17 q4) .v, .mv p12 q2 .s, .fa p13 1 q3, .ld p14 q13 tI, .P p15 (.build [(.bool false), (.bool false), (.bool false), (.str []), (kI 0), (kI 0), .nils, (.bool false), .nils, (kI 0), .nils, .nils, (.str []), (kI 0), (kI 0), (kI 0), (kI 0), (.str []), (kI 0)] [⟨0, 17, q11⟩, ⟨17, 1, q12⟩, ⟨18, 1, q14⟩]) .v, .al p16 (.bsl [(.bool false), (.bool false), (.bool false), (.str []), (kI 0), (kI 0), .nils, (.bool false), .nils, (kI 0), .nils, .nils, (.str []), (kI 0), (kI 0), (kI 0), (kI 0), (.str []), (kI 0)] 1 [⟨0, 19, q15⟩]), .o ⟨(some p10), (.e (.app 19 224 q7 q9)), none, [⟨none, .cells 17 q4, p11⟩, ⟨none, .cell q13, p14⟩]⟩ .v, .o ⟨(some p17), (.e (.app 19 224 q10 q16)), none, []⟩ .v, .fa p18 0 q3, .st q18 q17])) (.sO [.L p19 (.cells 7 q3) .v, .ss 7 q6 q19] (.s .ret))))
def x63 : XFn := ⟨[.v, .v, .s], false, [(.cells 7 p6)], c63_e⟩
def e63_0 (k t0 t1 t2 h) := kN k [(p0, t0), (p1, t1), (p2, (vS t2))] h
def S63_0 (D : CallD) (m : Nat) (t0 t1 : AV) (t2 : LN) (h : HP) : Res2 :=
 let t3 := AV.ptr (HP.nxQ h) 0
 let h1 := HP.newQ h (.cells true (AV.cells t0))
 let t4 := AV.ptr (HP.nxQ h1) 0
 let h2 := HP.newQ h1 (.cells true (AV.cells t1))
 let t6 := AV.ptr (HP.nxQ h2) 0
 let h3 := HP.newQ h2 (.cells true [.nils, (kI 0), (kI 0), (kI 0), (kI 0), (kI 0), (kI 0)])
 let t7 := AV.slice (HP.nxQ h3) 0 0 (.exact 0)
 let h4 := HP.newQ h3 (.cells true [])
 let t8 := (AV.ptr (HP.nxQ h) (Nat.add 0 0))
 cellC t8 h4 fun t9 =>
 cellsC 17 t4 h4 fun t11 =>
 let t13 := (AV.ptr (HP.nxQ h) (Nat.add 0 1))
 ldI t13 h4 fun t14 =>
 obQ (evP (.build [(.bool false), (.bool false), (.bool false), (.str []), (kI 0), (kI 0), .nils, (.bool false), .nils, (kI 0), .nils, .nils, (.str []), (kI 0), (kI 0), (kI 0), (kI 0), (.str []), (kI 0)] [⟨0, 17, (.c t11)⟩, ⟨17, 1, (.c (vS t2))⟩, ⟨18, 1, (.c (vI t14))⟩]) .leaf) fun t15 =>
 obQ (evA (.bsl [(.bool false), (.bool false), (.bool false), (.str []), (kI 0), (kI 0), .nils, (.bool false), .nils, (kI 0), .nils, .nils, (.str []), (kI 0), (kI 0), (kI 0), (kI 0), (.str []), (kI 0)] 1 [⟨0, 19, (.c t15)⟩]) .leaf) fun r5 =>
 let t16 := vkV r5.2 (HP.nxQ h4)
 let h6 := HP.newQ h4 r5.1
 eff (.app 19 224 (.c t7) (.c t9)) h6 fun t10 h7 =>
 br (againE (.app 19 224 q7 q9) [⟨none, .cells 17 q4, p11⟩, ⟨none, .cell q13, p14⟩] (mkT [(p14, (vI t14)), (p13, t13), (p11, t11), (p4, t4)]) h7) (
 eff (.app 19 224 (.c t10) (.c t16)) h7 fun t17 h8 =>
 let t18 := (AV.ptr (HP.nxQ h) (Nat.add 0 0))
 stoC t18 t17 h8 fun h9 =>
 cellsC 7 t3 h9 fun t19 =>
 stsC 7 t6 t19 h9 fun h10 =>
 cellsC 7 t6 h10 fun t6a =>
 some (.ret t6a h10, .no)) none
def S63 : SFn := fun D m args h u => nou u <| popV args fun t0 args => popV args fun t1 args => popS args fun t2 args => endA args (S63_0 D m t0 t1 t2 h)
theorem T63_0 (hE : FX x63 D m E) : S63_0 D m = e63_0 (E c63_e []) := by unfold S63_0; rw [hE c63_e]; kernel_rfl
theorem X63 : XTie S63 x63 := X_of fun D m E hE args h u => by unfold S63; rw [T63_0 hE]; kernel_rfl
/- 64 -/
def c64_e : XC := (.sO [.mv p2 (cb false) .b] (.sO [.mv p3 q0 .s, .bn p4 .eql q3 (.c (.str [112, 117, 116, 119])) .b, .mv p5 q4 .b, .ge p5 (XL.of [.G p5 false p6 (.mov q0) .s, .G p5 false p7 (.bin .eql q6 (.c (.str [112, 117, 116, 100]))) .b, .P p8 (.pick q5 (cb true) q7) .b]) p8 .b, .mv p9 q8 .b, .ge p9 (XL.of [.G p9 false p10 (.mov q0) .s, .G p9 false p11 (.bin .eql q10 (.c (.str [103, 101, 116, 119]))) .b, .P p12 (.pick q9 (cb true) q11) .b]) p12 .b, .mv p2 q12 .b] (.s .ret)))
def x64 : XFn := ⟨[.s], false, [(.tmp p2)], c64_e⟩
def e64_0 (k t0 h) := kN k [(p0, (vS t0))] h
def S64_0 (D : CallD) (m : Nat) (t0 : LN) (h : HP) : Res2 :=
 let t4 := eqL t0 ([112, 117, 116, 119] : LN)
 obB (brV t4 (
 some (vB true)) (
 let t7 := eqL t0 ([112, 117, 116, 100] : LN)
 some (vB t7))) fun t8 =>
 obB (brV t8 (
 some (vB true)) (
 let t11 := eqL t0 ([103, 101, 116, 119] : LN)
 some (vB t11))) fun t12 =>
 some (.ret (vB t12) h, .no)
def S64 : SFn := fun D m args h u => nou u <| popS args fun t0 args => endA args (S64_0 D m t0 h)
theorem T64_0 (hE : FX x64 D m E) : S64_0 D m = e64_0 (E c64_e []) := by unfold S64_0; rw [hE c64_e]; kernel_rfl
theorem X64 : XTie S64 x64 := X_of fun D m E hE args h u => by unfold S64; rw [T64_0 hE]; kernel_rfl
/- 66 -/
def c66_e : XC := (.sO [.mv p2 (cb false) .b] (.sO [.mv p3 q0 tI, .bn p4 .eql q3 (ci 1) .b, .mv p5 q4 .b, .ge p5 (XL.of [.G p5 false p6 (.mov q0) tI, .G p5 false p7 (.bin .eql q6 (ci 2)) .b, .P p8 (.pick q5 (cb true) q7) .b]) p8 .b, .mv p2 q8 .b] (.s .ret)))
def x66 : XFn := ⟨[tI], false, [(.tmp p2)], c66_e⟩
def e66_0 (k t0 h) := kN k [(p0, (vI t0))] h
def S66_0 (D : CallD) (m : Nat) (t0 : Int) (h : HP) : Res2 :=
 let t4 := eqQ t0 (Int.ofNat 1)
 obB (brV t4 (
 some (vB true)) (
 let t7 := eqQ t0 (Int.ofNat 2)
 some (vB t7))) fun t8 =>
 some (.ret (vB t8) h, .no)
def S66 : SFn := fun D m args h u => nou u <| popI .i64 args fun t0 args => endA args (S66_0 D m t0 h)
theorem T66_0 (hE : FX x66 D m E) : S66_0 D m = e66_0 (E c66_e []) := by unfold S66_0; rw [hE c66_e]; kernel_rfl
theorem X66 : XTie S66 x66 := X_of fun D m E hE args h u => by unfold S66; rw [T66_0 hE]; kernel_rfl
/- 67 -/
def c67_e : XC := (.sO [.al p1 (.box q0), .al p2 (.new [.nils, (kI 0), (kI 0), (kI 0), (kI 0), (kI 0), (kI 0)])] (.sO [.fa p3 1 q1, .ld p4 q3 tI, .bn p5 .add q4 (ci 1) tI, .fa p6 1 q1, .st q6 q5] (.sO [.L p7 (.cells 7 q1) .v, .ss 7 q2 q7] (.s .ret))))
def x67 : XFn := ⟨[.v], false, [(.cells 7 p2)], c67_e⟩
def e67_0 (k t0 h) := kN k [(p0, t0)] h
def S67_0 (D : CallD) (m : Nat) (t0 : AV) (h : HP) : Res2 :=
 let t1 := AV.ptr (HP.nxQ h) 0
 let h1 := HP.newQ h (.cells true (AV.cells t0))
 let t2 := AV.ptr (HP.nxQ h1) 0
 let h2 := HP.newQ h1 (.cells true [.nils, (kI 0), (kI 0), (kI 0), (kI 0), (kI 0), (kI 0)])
 let t3 := (AV.ptr (HP.nxQ h) (Nat.add 0 1))
 ldI t3 h2 fun t4 =>
 let t5 := wrQ .i64 (addQ t4 (Int.ofNat 1))
 let t6 := (AV.ptr (HP.nxQ h) (Nat.add 0 1))
 stoC t6 (vI t5) h2 fun h3 =>
 cellsC 7 t1 h3 fun t7 =>
 stsC 7 t2 t7 h3 fun h4 =>
 cellsC 7 t2 h4 fun t2a =>
 some (.ret t2a h4, .no)
def S67 : SFn := fun D m args h u => nou u <| popV args fun t0 args => endA args (S67_0 D m t0 h)
theorem T67_0 (hE : FX x67 D m E) : S67_0 D m = e67_0 (E c67_e []) := by unfold S67_0; rw [hE c67_e]; kernel_rfl
theorem X67 : XTie S67 x67 := X_of fun D m E hE args h u => by unfold S67; rw [T67_0 hE]; kernel_rfl
/- 68 -/
def v68_0 : List Pos := [p4]
def c68_0 : XC := (.sO [.P p29 (.build [(.bool false), (.bool false), (.bool false), (.str []), (kI 0), (kI 0), .nils, (.bool false), .nils, (kI 0), .nils, .nils, (.str []), (kI 0), (kI 0), (kI 0), (kI 0), (.str []), (kI 0)] []) .v, .ss 19 q4 q29, .mv p5 (cb false) .b] (.s .ret))
def v68_1 : List Pos := [p1, p2, p4, p6]
def c68_1b : XC := (.seq (.seq (.oX [.mv p11 q6 tI, .bn p12 .geq q11 (ci 0) .b]) (.cond q12 .skip (.exit 0))) (.seq (.block 1 (.seq (.oX [.fa p15 0 q2, .ld p16 q15 .v, .mv p17 q6 tI, .P p18 (.iaddr (.sl 19) q16 q17) .v, .fa p19 0 q18, .fa p20 3 q19, .ld p21 q20 .s, .mv p22 q1 .s, .bn p23 .eql q21 q22 .b]) (.cond q23 (.seq (.oX [.fa p24 0 q2, .ld p25 q24 .v, .mv p26 q6 tI, .P p27 (.iaddr (.sl 19) q25 q26) .v, .L p28 (.cells 19 q27) .v, .ss 19 q4 q28, .mv p5 (cb true) .b]) .ret) .skip))) (.s (.oX [.mv p13 q6 tI, .bn p14 .sub q13 (ci 1) tI, .mv p6 q14 tI]))))
def c68_e : XC := (.sO [.al p2 (.box q0), .al p4 (.new [(.bool false), (.bool false), (.bool false), (.str []), (kI 0), (kI 0), .nils, (.bool false), .nils, (kI 0), .nils, .nils, (.str []), (kI 0), (kI 0), (kI 0), (kI 0), (.str []), (kI 0)]), .mv p5 (cb false) .b] (.sj v68_0 (.sO [.fa p7 0 q2, .ld p8 q7 .v, .P p9 (.lenl q8) tI, .bn p10 .sub q9 (ci 1) tI, .mv p6 q10 tI] (.block 0 (.loop v68_1 c68_1b))) c68_0))
def x68 : XFn := ⟨[.v, .s], false, [(.cells 19 p4), (.tmp p5)], c68_e⟩
def e68_0 (k t4 h) := kN k [(p4, t4)] h
def S68_0 (D : CallD) (m : Nat) (t4 : AV) (h : HP) : Res2 :=
 let t29 := (AV.agg [(vB false), (vB false), (vB false), (vS ([] : LN)), (vI (Int.ofNat 0)), (vI (Int.ofNat 0)), (.nils : AV), (vB false), (.nils : AV), (vI (Int.ofNat 0)), (.nils : AV), (.nils : AV), (vS ([] : LN)), (vI (Int.ofNat 0)), (vI (Int.ofNat 0)), (vI (Int.ofNat 0)), (vI (Int.ofNat 0)), (vS ([] : LN)), (vI (Int.ofNat 0))])
 stsC 19 t4 t29 h fun h5 =>
 cellsC 19 t4 h5 fun t4a =>
 some (.ret (.tup [t4a, (vB false)]) h5, .no)
def e68_1 (k t1 t2 t4 t6 h) := kN k [(p1, (vS t1)), (p2, t2), (p4, t4), (p6, (vI t6))] h
def S68_1b (D : CallD) (m : Nat) (g1 : LN → AV → AV → Int → HP → Res2) (t1 : LN) (t2 t4 : AV) (t6 : Int) (h : HP) : Res2 :=
 let t12 := leQ (Int.ofNat 0) t6
 br t12 (
 faC 0 t2 fun t15 =>
 cellC t15 h fun t16 =>
 iasC 19 t16 (vI t6) fun t18 =>
 faC 0 t18 fun t19 =>
 faC 3 t19 fun t20 =>
 ldS t20 h fun t21 =>
 let t23 := eqL t21 t1
 br t23 (
 faC 0 t2 fun t24 =>
 cellC t24 h fun t25 =>
 iasC 19 t25 (vI t6) fun t27 =>
 cellsC 19 t27 h fun t28 =>
 stsC 19 t4 t28 h fun h6 =>
 cellsC 19 t4 h6 fun t4a =>
 some (.ret (.tup [t4a, (vB true)]) h6, .no)) (
 let t14 := wrQ .i64 (t6 - (Int.ofNat 1))
 g1 t1 t2 t4 t14 h)) (
 S68_0 D m t4 h)
def S68_1 (D : CallD) (m : Nat) : LN → AV → AV → Int → HP → Res2 := nrec (fun _ _ _ _ _ => none) (fun _ g => S68_1b D m g) m
def e68_2 (k t0 t1 h) := kN k [(p0, t0), (p1, (vS t1))] h
def S68_2 (D : CallD) (m : Nat) (t0 : AV) (t1 : LN) (h : HP) : Res2 :=
 let t2 := AV.ptr (HP.nxQ h) 0
 let h3 := HP.newQ h (.cells true (AV.cells t0))
 let t4 := AV.ptr (HP.nxQ h3) 0
 let h4 := HP.newQ h3 (.cells true [(.bool false), (.bool false), (.bool false), (.str []), (kI 0), (kI 0), .nils, (.bool false), .nils, (kI 0), .nils, .nils, (.str []), (kI 0), (kI 0), (kI 0), (kI 0), (.str []), (kI 0)])
 let t7 := (AV.ptr (HP.nxQ h) (Nat.add 0 0))
 cellC t7 h4 fun t8 =>
 lenC t8 fun vt9 => asI .i64 vt9 fun t9 =>
 let t10 := wrQ .i64 (t9 - (Int.ofNat 1))
 S68_1 D m t1 t2 t4 t10 h4
def S68 : SFn := fun D m args h u => nou u <| popV args fun t0 args => popS args fun t1 args => endA args (S68_2 D m t0 t1 h)
theorem T68_0 (hE : FX x68 D m E) : S68_0 D m = e68_0 (E c68_0 []) := by unfold S68_0; rw [hE c68_0]; kernel_rfl
theorem T68_1b (hE : FX x68 D m E) (G1) : S68_1b D m (e68_1 G1) = e68_1 (E c68_1b [.lp v68_1 G1, .blk 0, .sj v68_0 c68_0]) := by unfold S68_1b; rw [T68_0 hE, hE c68_1b]; kernel_rfl
theorem T68_1 (hE : FX x68 D m E) : S68_1 D m = e68_1 (nrec (fun _ => none) (fun _ G1 st => E c68_1b [.lp v68_1 G1, .blk 0, .sj v68_0 c68_0] st) m) :=
  nrec_emb e68_1 (fun _ _ _ _ _ => none) (fun g => S68_1b D m g) (fun G1 st => E c68_1b [.lp v68_1 G1, .blk 0, .sj v68_0 c68_0] st) rfl (fun g => T68_1b hE g) m
theorem T68_2 (hE : FX x68 D m E) : S68_2 D m = e68_2 (E c68_e []) := by unfold S68_2; rw [T68_1 hE, hE c68_e]; kernel_rfl
theorem X68 : XTie S68 x68 := X_of fun D m E hE args h u => by unfold S68; rw [T68_2 hE]; kernel_rfl
/- 70 -/
def v70_0 : List Pos := [p4, p5, p8, p9]
def c70_0 : XC := (.seq (.ops true (XL.of [.L p28 (.cells 7 q4) .v, .L p29 (.cells 8 q5) .v, .o ⟨none, (.e (.stores 7 q8 q28)), none, [⟨none, .cells 8 q5, p29⟩]⟩ .v, .ss 8 q9 q29])) (.s .ret))
def c70_e : XC := (.sO [.al p4 (.box q0), .al p5 (.box q1), .al p8 (.new [.nils, (kI 0), (kI 0), (kI 0), (kI 0), (kI 0), (kI 0)]), .al p9 (.new [(kI 0), (.str []), (.str []), (.int .u32 (.ofNat 0)), (.int .u64 (.ofNat 0)), .nils, (kI 0), (kI 0)])] (.sO [.L p12 (.cells 7 q4) .v, .L p13 (.cells 8 q5) .v, .cl p14 103 [q12, q13] .v, .mv p11 q14 .v, .P p15 (.ext q11 0) .v, .P p16 (.ext q11 1) .v, .ss 7 q4 q15, .ss 8 q5 q16] (.sO [.L p18 (.cells 8 q5) .v, .mv p19 q2 tI, .cl p20 104 [q18, q19] .v, .mv p17 q20 .v, .P p21 (.ext q17 0) .v, .P p22 (.ext q17 1) .b, .ss 8 q5 q21, .mv p10 q22 .b] (.sj v70_0 (.sO [.mv p23 q10 .b, .P p24 (.un .not q23) .b] (.cond q24 (.s (.oX [.L p25 (.cells 7 q4) .v, .mv p26 q3 tI, .cl p27 32 [q25, (ci 14), q26] .v, .ss 7 q4 q27])) (.s .skip))) c70_0))))
def x70 : XFn := ⟨[.v, .v, tI, tI], false, [(.cells 7 p8), (.cells 8 p9)], c70_e⟩
def e70_0 (k t4 t5 t8 t9 h) := kN k [(p4, t4), (p5, t5), (p8, t8), (p9, t9)] h
def S70_0 (D : CallD) (m : Nat) (t4 t5 t8 t9 : AV) (h : HP) : Res2 :=
 cellsC 7 t4 h fun t28 =>
 cellsC 8 t5 h fun t29 =>
 stsC 7 t8 t28 h fun h11 =>
 br (againE (.stores 7 q8 q28) [⟨none, .cells 8 q5, p29⟩] (mkT [(p8, t8), (p29, t29), (p5, t5)]) h11) (
 stsC 8 t9 t29 h11 fun h12 =>
 cellsC 7 t8 h12 fun t8a =>
 cellsC 8 t9 h12 fun t9a =>
 some (.ret (.tup [t8a, t9a]) h12, .no)) none
def e70_1 (k t0 t1 t2 t3 h) := kN k [(p0, t0), (p1, t1), (p2, (vI t2)), (p3, (vI t3))] h
def S70_1 (D : CallD) (m : Nat) (t0 t1 : AV) (t2 t3 : Int) (h : HP) : Res2 :=
 let t4 := AV.ptr (HP.nxQ h) 0
 let h2 := HP.newQ h (.cells true (AV.cells t0))
 let t5 := AV.ptr (HP.nxQ h2) 0
 let h3 := HP.newQ h2 (.cells true (AV.cells t1))
 let t8 := AV.ptr (HP.nxQ h3) 0
 let h4 := HP.newQ h3 (.cells true [.nils, (kI 0), (kI 0), (kI 0), (kI 0), (kI 0), (kI 0)])
 let t9 := AV.ptr (HP.nxQ h4) 0
 let h5 := HP.newQ h4 (.cells true [(kI 0), (.str []), (.str []), (.int .u32 (.ofNat 0)), (.int .u64 (.ofNat 0)), .nils, (kI 0), (kI 0)])
 cellsC 7 t4 h5 fun t12 =>
 cellsC 8 t5 h5 fun t13 =>
 cal D 103 [t12, t13] h5 fun t14 h6 =>
 extC t14 0 fun t15 =>
 extC t14 1 fun t16 =>
 stsC 7 t4 t15 h6 fun h7 =>
 stsC 8 t5 t16 h7 fun h8 =>
 cellsC 8 t5 h8 fun t18 =>
 cal D 104 [t18, (vI t2)] h8 fun t20 h9 =>
 extC t20 0 fun t21 =>
 extC t20 1 fun vt22 => asB vt22 fun t22 =>
 stsC 8 t5 t21 h9 fun h10 =>
 let t24 := !t22
 br t24 (
 cellsC 7 t4 h10 fun t25 =>
 cal D 32 [t25, (vI (Int.ofNat 14)), (vI t3)] h10 fun t27 h13 =>
 stsC 7 t4 t27 h13 fun h14 =>
 S70_0 D m t4 t5 t8 t9 h14) (
 S70_0 D m t4 t5 t8 t9 h10)
def S70 : SFn := fun D m args h u => nou u <| popV args fun t0 args => popV args fun t1 args => popI .i64 args fun t2 args => popI .i64 args fun t3 args => endA args (S70_1 D m t0 t1 t2 t3 h)
theorem T70_0 (hE : FX x70 D m E) : S70_0 D m = e70_0 (E c70_0 []) := by unfold S70_0; rw [hE c70_0]; kernel_rfl
theorem T70_1 (hE : FX x70 D m E) : S70_1 D m = e70_1 (E c70_e []) := by unfold S70_1; rw [T70_0 hE, hE c70_e]; kernel_rfl
theorem X70 : XTie S70 x70 := X_of fun D m E hE args h u => by unfold S70; rw [T70_1 hE]; kernel_rfl
/- 71 -/
def v71_0 : List Pos := [p2, p4, p6]
def c71_0 : XC := (.sO [.L p29 (.cells 7 q2) .v, .mv p30 q6 .v, .ss 7 q4 q29, .mv p5 q30 .v] (.s .ret))
def v71_1 : List Pos := [p1, p2, p4, p6, p10, p11]
def c71_1b : XC := (.sO [.bn p12 .lss q11 q10 .b] (.seq (.cond q12 .skip (.exit 0)) (.seq (.block 1 (.seq (.oX [.mv p13 q11 tI, .mv p7 q13 tI]) (.seq (.oX [.P p14 (.build [(kI 0), .nils, .nils, (.str []), (kI 0), (kI 0), (kI 0)] []) .v, .al p8 (.new [(kI 0), .nils, .nils, (.str []), (kI 0), (kI 0), (kI 0)]), .ss 7 q8 q14]) (.seq (.ops true (XL.of [.L p16 (.cells 7 q2) .v, .mv p17 q1 .v, .mv p18 q7 tI, .P p19 (.iaddr (.sl 7) q17 q18) .v, .L p20 (.cells 7 q19) .v, .cl p21 105 [q16, q20] .v, .mv p15 q21 .v, .P p22 (.ext q15 0) .v, .P p23 (.ext q15 1) .v, .ss 7 q2 q22, .ss 7 q8 q23])) (.oX [.mv p24 q6 .v, .L p25 (.cells 7 q8) .v, .al p26 (.bsl [(kI 0), .nils, .nils, (.str []), (kI 0), (kI 0), (kI 0)] 1 [⟨0, 7, q25⟩]), .o ⟨(some p27), (.e (.app 7 96 q24 q26)), none, []⟩ .v, .mv p6 q27 .v]))))) (.s (.oX [.bn p28 .add q11 (ci 1) tI, .mv p11 q28 tI])))))
def c71_e : XC := (.sO [.al p2 (.box q0), .al p4 (.new [.nils, (kI 0), (kI 0), (kI 0), (kI 0), (kI 0), (kI 0)]), .mv p5 (.c .nils) .v] (.sO [.mv p6 (.c .nils) .v] (.sj v71_0 (.sO [.mv p9 q1 .v, .P p10 (.lenl q9) tI, .mv p11 (ci 0) tI] (.block 0 (.loop v71_1 c71_1b))) c71_0)))
def x71 : XFn := ⟨[.v, .v], false, [(.cells 7 p4), (.tmp p5)], c71_e⟩
def e71_0 (k t2 t4 t6 h) := kN k [(p2, t2), (p4, t4), (p6, t6)] h
def S71_0 (D : CallD) (m : Nat) (t2 t4 t6 : AV) (h : HP) : Res2 :=
 cellsC 7 t2 h fun t29 =>
 stsC 7 t4 t29 h fun h5 =>
 cellsC 7 t4 h5 fun t4a =>
 some (.ret (.tup [t4a, t6]) h5, .no)
def e71_1 (k t1 t2 t4 t6 t10 t11 h) := kN k [(p1, t1), (p2, t2), (p4, t4), (p6, t6), (p10, (vI t10)), (p11, (vI t11))] h
def S71_1b (D : CallD) (m : Nat) (g1 : AV → AV → AV → AV → Int → Int → HP → Res2) (t1 t2 t4 t6 : AV) (t10 t11 : Int) (h : HP) : Res2 :=
 let t12 := ltQ t11 t10
 br t12 (
 let t14 := (AV.agg [(vI (Int.ofNat 0)), (.nils : AV), (.nils : AV), (vS ([] : LN)), (vI (Int.ofNat 0)), (vI (Int.ofNat 0)), (vI (Int.ofNat 0))])
 let t8 := AV.ptr (HP.nxQ h) 0
 let h6 := HP.newQ h (.cells true [(kI 0), .nils, .nils, (.str []), (kI 0), (kI 0), (kI 0)])
 stsC 7 t8 t14 h6 fun h7 =>
 cellsC 7 t2 h7 fun t16 =>
 iasC 7 t1 (vI t11) fun t19 =>
 cellsC 7 t19 h7 fun t20 =>
 cal D 105 [t16, t20] h7 fun t21 h8 =>
 extC t21 0 fun t22 =>
 extC t21 1 fun t23 =>
 stsC 7 t2 t22 h8 fun h9 =>
 stsC 7 t8 t23 h9 fun h10 =>
 cellsC 7 t8 h10 fun t25 =>
 obQ (evA (.bsl [(kI 0), .nils, .nils, (.str []), (kI 0), (kI 0), (kI 0)] 1 [⟨0, 7, (.c t25)⟩]) .leaf) fun r11 =>
 let t26 := vkV r11.2 (HP.nxQ h10)
 let h12 := HP.newQ h10 r11.1
 eff (.app 7 96 (.c t6) (.c t26)) h12 fun t27 h13 =>
 let t28 := wrQ .i64 (addQ t11 (Int.ofNat 1))
 g1 t1 t2 t4 t27 t10 t28 h13) (
 S71_0 D m t2 t4 t6 h)
def S71_1 (D : CallD) (m : Nat) : AV → AV → AV → AV → Int → Int → HP → Res2 := nrec (fun _ _ _ _ _ _ _ => none) (fun _ g => S71_1b D m g) m
def e71_2 (k t0 t1 h) := kN k [(p0, t0), (p1, t1)] h
def S71_2 (D : CallD) (m : Nat) (t0 t1 : AV) (h : HP) : Res2 :=
 let t2 := AV.ptr (HP.nxQ h) 0
 let h3 := HP.newQ h (.cells true (AV.cells t0))
 let t4 := AV.ptr (HP.nxQ h3) 0
 let h4 := HP.newQ h3 (.cells true [.nils, (kI 0), (kI 0), (kI 0), (kI 0), (kI 0), (kI 0)])
 lenC t1 fun vt10 => asI .i64 vt10 fun t10 =>
 S71_1 D m t1 t2 t4 (.nils : AV) t10 (Int.ofNat 0) h4
def S71 : SFn := fun D m args h u => nou u <| popV args fun t0 args => popV args fun t1 args => endA args (S71_2 D m t0 t1 h)
theorem T71_0 (hE : FX x71 D m E) : S71_0 D m = e71_0 (E c71_0 []) := by unfold S71_0; rw [hE c71_0]; kernel_rfl
theorem T71_1b (hE : FX x71 D m E) (G1) : S71_1b D m (e71_1 G1) = e71_1 (E c71_1b [.lp v71_1 G1, .blk 0, .sj v71_0 c71_0]) := by unfold S71_1b; rw [T71_0 hE, hE c71_1b]; kernel_rfl
theorem T71_1 (hE : FX x71 D m E) : S71_1 D m = e71_1 (nrec (fun _ => none) (fun _ G1 st => E c71_1b [.lp v71_1 G1, .blk 0, .sj v71_0 c71_0] st) m) :=
  nrec_emb e71_1 (fun _ _ _ _ _ _ _ => none) (fun g => S71_1b D m g) (fun G1 st => E c71_1b [.lp v71_1 G1, .blk 0, .sj v71_0 c71_0] st) rfl (fun g => T71_1b hE g) m
theorem T71_2 (hE : FX x71 D m E) : S71_2 D m = e71_2 (E c71_e []) := by unfold S71_2; rw [T71_1 hE, hE c71_e]; kernel_rfl
theorem X71 : XTie S71 x71 := X_of fun D m E hE args h u => by unfold S71; rw [T71_2 hE]; kernel_rfl
/- 72 -/
def v72_0 : List Pos := [p1, p2, p3]
def c72_0 : XC := (.sO [.mv p29 q3 .v, .fa p30 0 q1, .st q30 q29] (.sO [.fa p31 1 q1, .ld p32 q31 tI, .bn p33 .sub q32 (ci 1) tI, .fa p34 1 q1, .st q34 q33] (.sO [.L p35 (.cells 7 q1) .v, .ss 7 q2 q35] (.s .ret))))
def v72_2 : List Pos := [p1, p2, p3, p7, p8]
def c72_2 : XC := (.s (.oX [.bn p28 .add q8 (ci 1) tI, .mv p8 q28 tI]))
def v72_1 : List Pos := [p1, p2, p3, p7, p8]
def c72_1b : XC := (.sO [.bn p9 .lss q8 q7 .b] (.seq (.cond q9 .skip (.exit 0)) (.sj v72_2 (.block 1 (.sO [.mv p10 q8 tI, .mv p4 q10 tI] (.seq (.ops true (XL.of [.fa p11 0 q1, .ld p12 q11 .v, .mv p13 q4 tI, .P p14 (.iaddr (.sl 19) q12 q13) .v, .fa p15 18 q14, .ld p16 q15 tI, .fa p17 1 q1, .ld p18 q17 tI, .bn p19 .lss q16 q18 .b])) (.cond q19 (.s (.oX [.mv p20 q3 .v, .fa p21 0 q1, .ld p22 q21 .v, .mv p23 q4 tI, .P p24 (.iaddr (.sl 19) q22 q23) .v, .L p25 (.cells 19 q24) .v, .al p26 (.bsl [(.bool false), (.bool false), (.bool false), (.str []), (kI 0), (kI 0), .nils, (.bool false), .nils, (kI 0), .nils, .nils, (.str []), (kI 0), (kI 0), (kI 0), (kI 0), (.str []), (kI 0)] 1 [⟨0, 19, q25⟩]), .o ⟨(some p27), (.e (.app 19 224 q20 q26)), none, []⟩ .v, .mv p3 q27 .v])) (.s .skip))))) c72_2)))
def c72_e : XC := (.sO [.al p1 (.box q0), .al p2 (.new [.nils, (kI 0), (kI 0), (kI 0), (kI 0), (kI 0), (kI 0)])] (.sO [.mv p3 (.c .nils) .v] (.sj v72_0 (.sO [.fa p5 0 q1, .ld p6 q5 .v, .P p7 (.lenl q6) tI, .mv p8 (ci 0) tI] (.block 0 (.loop v72_1 c72_1b))) c72_0)))
def x72 : XFn := ⟨[.v], false, [(.cells 7 p2)], c72_e⟩
def e72_0 (k t1 t2 t3 h) := kN k [(p1, t1), (p2, t2), (p3, t3)] h
def S72_0 (D : CallD) (m : Nat) (t1 t2 t3 : AV) (h : HP) : Res2 :=
 faC 0 t1 fun t30 =>
 stoC t30 t3 h fun h6 =>
 faC 1 t1 fun t31 =>
 ldI t31 h6 fun t32 =>
 let t33 := wrQ .i64 (t32 - (Int.ofNat 1))
 faC 1 t1 fun t34 =>
 stoC t34 (vI t33) h6 fun h7 =>
 cellsC 7 t1 h7 fun t35 =>
 stsC 7 t2 t35 h7 fun h8 =>
 cellsC 7 t2 h8 fun t2a =>
 some (.ret t2a h8, .no)
def e72_2 (k t1 t2 t3 t7 t8 h) := kN k [(p1, t1), (p2, t2), (p3, t3), (p7, (vI t7)), (p8, (vI t8))] h
def S72_2 (D : CallD) (m : Nat) (g1 : AV → AV → AV → Int → Int → HP → Res2) (t1 t2 t3 : AV) (t7 t8 : Int) (h : HP) : Res2 :=
 let t28 := wrQ .i64 (addQ t8 (Int.ofNat 1))
 g1 t1 t2 t3 t7 t28 h
def e72_1 (k t1 t2 t3 t7 t8 h) := kN k [(p1, t1), (p2, t2), (p3, t3), (p7, (vI t7)), (p8, (vI t8))] h
def S72_1b (D : CallD) (m : Nat) (g1 : AV → AV → AV → Int → Int → HP → Res2) (t1 t2 t3 : AV) (t7 t8 : Int) (h : HP) : Res2 :=
 let t9 := ltQ t8 t7
 br t9 (
 faC 0 t1 fun t11 =>
 cellC t11 h fun t12 =>
 iasC 19 t12 (vI t8) fun t14 =>
 faC 18 t14 fun t15 =>
 ldI t15 h fun t16 =>
 faC 1 t1 fun t17 =>
 ldI t17 h fun t18 =>
 let t19 := ltQ t16 t18
 br t19 (
 faC 0 t1 fun t21 =>
 cellC t21 h fun t22 =>
 iasC 19 t22 (vI t8) fun t24 =>
 cellsC 19 t24 h fun t25 =>
 obQ (evA (.bsl [(.bool false), (.bool false), (.bool false), (.str []), (kI 0), (kI 0), .nils, (.bool false), .nils, (kI 0), .nils, .nils, (.str []), (kI 0), (kI 0), (kI 0), (kI 0), (.str []), (kI 0)] 1 [⟨0, 19, (.c t25)⟩]) .leaf) fun r9 =>
 let t26 := vkV r9.2 (HP.nxQ h)
 let h10 := HP.newQ h r9.1
 eff (.app 19 224 (.c t3) (.c t26)) h10 fun t27 h11 =>
 S72_2 D m g1 t1 t2 t27 t7 t8 h11) (
 S72_2 D m g1 t1 t2 t3 t7 t8 h)) (
 S72_0 D m t1 t2 t3 h)
def S72_1 (D : CallD) (m : Nat) : AV → AV → AV → Int → Int → HP → Res2 := nrec (fun _ _ _ _ _ _ => none) (fun _ g => S72_1b D m g) m
def e72_3 (k t0 h) := kN k [(p0, t0)] h
def S72_3 (D : CallD) (m : Nat) (t0 : AV) (h : HP) : Res2 :=
 let t1 := AV.ptr (HP.nxQ h) 0
 let h4 := HP.newQ h (.cells true (AV.cells t0))
 let t2 := AV.ptr (HP.nxQ h4) 0
 let h5 := HP.newQ h4 (.cells true [.nils, (kI 0), (kI 0), (kI 0), (kI 0), (kI 0), (kI 0)])
 let t5 := (AV.ptr (HP.nxQ h) (Nat.add 0 0))
 cellC t5 h5 fun t6 =>
 lenC t6 fun vt7 => asI .i64 vt7 fun t7 =>
 S72_1 D m t1 t2 (.nils : AV) t7 (Int.ofNat 0) h5
def S72 : SFn := fun D m args h u => nou u <| popV args fun t0 args => endA args (S72_3 D m t0 h)
theorem T72_0 (hE : FX x72 D m E) : S72_0 D m = e72_0 (E c72_0 []) := by unfold S72_0; rw [hE c72_0]; kernel_rfl
theorem T72_2 (hE : FX x72 D m E) (G1) : S72_2 D m (e72_1 G1) = e72_2 (E c72_2 [.lp v72_1 G1, .blk 0, .sj v72_0 c72_0]) := by unfold S72_2; rw [hE c72_2]; kernel_rfl
theorem T72_1b (hE : FX x72 D m E) (G1) : S72_1b D m (e72_1 G1) = e72_1 (E c72_1b [.lp v72_1 G1, .blk 0, .sj v72_0 c72_0]) := by unfold S72_1b; rw [T72_2 hE G1, T72_0 hE, hE c72_1b]; kernel_rfl
theorem T72_1 (hE : FX x72 D m E) : S72_1 D m = e72_1 (nrec (fun _ => none) (fun _ G1 st => E c72_1b [.lp v72_1 G1, .blk 0, .sj v72_0 c72_0] st) m) :=
  nrec_emb e72_1 (fun _ _ _ _ _ _ => none) (fun g => S72_1b D m g) (fun G1 st => E c72_1b [.lp v72_1 G1, .blk 0, .sj v72_0 c72_0] st) rfl (fun g => T72_1b hE g) m
theorem T72_3 (hE : FX x72 D m E) : S72_3 D m = e72_3 (E c72_e []) := by unfold S72_3; rw [T72_1 hE, hE c72_e]; kernel_rfl
theorem X72 : XTie S72 x72 := X_of fun D m E hE args h u => by unfold S72; rw [T72_3 hE]; kernel_rfl
/- 73 -/
def c73_e : XC := (.sO [.mv p2 (.c .nils) .v] (.seq (.seq (.oX [.mv p3 q0 .v, .P p4 (.eqn .sl false q3 (.c .nils)) .b]) (.cond q4 (.seq (.oX [.mv p2 (.c .nils) .v]) .ret) .skip)) (.sO [.al p5 (.bsl [] 0 []), .mv p6 q0 .v, .o ⟨(some p7), (.e (.app 3 32 q5 q6)), none, []⟩ .v, .mv p2 q7 .v] (.s .ret))))
def x73 : XFn := ⟨[.v], false, [(.tmp p2)], c73_e⟩
def e73_0 (k t0 h) := kN k [(p0, t0)] h
def S73_0 (D : CallD) (m : Nat) (t0 : AV) (h : HP) : Res2 :=
 obB (evP (.eqn .sl false (.c t0) (.c (.nils : AV))) .leaf) fun t4 =>
 br t4 (
 some (.ret (.nils : AV) h, .no)) (
 let t5 := AV.slice (HP.nxQ h) 0 0 (.exact 0)
 let h1 := HP.newQ h (.cells true [])
 eff (.app 3 32 (.c t5) (.c t0)) h1 fun t7 h2 =>
 some (.ret t7 h2, .no))
def S73 : SFn := fun D m args h u => nou u <| popV args fun t0 args => endA args (S73_0 D m t0 h)
theorem T73_0 (hE : FX x73 D m E) : S73_0 D m = e73_0 (E c73_e []) := by unfold S73_0; rw [hE c73_e]; kernel_rfl
theorem X73 : XTie S73 x73 := X_of fun D m E hE args h u => by unfold S73; rw [T73_0 hE]; kernel_rfl
/- 74 -/
def v74_0 : List Pos := [p0]
def c74_0 : XC := (.sO [.mv p30 q0 .v, .mv p4 q30 .v] (.s .ret))
def v74_1 : List Pos := [p0, p1, p9, p10]
def c74_1b : XC := (.sO [.bn p11 .lss q10 q9 .b] (.seq (.cond q11 .skip (.exit 0)) (.seq (.block 1 (.seq (.oX [.mv p12 q10 tI, .mv p5 q12 tI]) (.seq (.oX [.mv p13 q0 .v, .mv p14 q5 tI, .mv p15 q0 .v, .mv p16 q5 tI, .P p17 (.iaddr (.sl 8) q15 q16) .v, .fa p18 5 q17, .ld p19 q18 .v, .mv p20 q1 .v, .cl p21 74 [q19, q20] .v, .P p22 (.iaddr (.sl 8) q13 q14) .v, .fa p23 5 q22, .st q23 q21]) (.oX [.mv p24 q1 .v, .mv p25 q0 .v, .mv p26 q5 tI, .P p27 (.iaddr (.sl 8) q25 q26) .v, .o ⟨(some p28), (.call (.val q24) [q27]), none, []⟩ .v])))) (.s (.oX [.bn p29 .add q10 (ci 1) tI, .mv p10 q29 tI])))))
def c74_e : XC := (.sO [.mv p4 (.c .nils) .v] (.sO [.mv p6 q0 .v, .cl p7 106 [q6] .v, .mv p0 q7 .v] (.sj v74_0 (.sO [.mv p8 q0 .v, .P p9 (.lenl q8) tI, .mv p10 (ci 0) tI] (.block 0 (.loop v74_1 c74_1b))) c74_0)))
def x74 : XFn := ⟨[.v, .v], false, [(.tmp p4)], c74_e⟩
def e74_0 (k t0 h) := kN k [(p0, t0)] h
def S74_0 (D : CallD) (m : Nat) (t0 : AV) (h : HP) : Res2 :=
 some (.ret t0 h, .no)
def e74_1 (k t0 t1 t9 t10 h) := kN k [(p0, t0), (p1, t1), (p9, (vI t9)), (p10, (vI t10))] h
def S74_1b (D : CallD) (m : Nat) (g1 : AV → AV → Int → Int → HP → Res2) (t0 t1 : AV) (t9 t10 : Int) (h : HP) : Res2 :=
 let t11 := ltQ t10 t9
 br t11 (
 iasC 8 t0 (vI t10) fun t17 =>
 faC 5 t17 fun t18 =>
 cellC t18 h fun t19 =>
 cal D 74 [t19, t1] h fun t21 h4 =>
 iasC 8 t0 (vI t10) fun t22 =>
 faC 5 t22 fun t23 =>
 stoC t23 t21 h4 fun h5 =>
 iasC 8 t0 (vI t10) fun t27 =>
 obQ (target .leaf (.val (.c t1)) [(.c t27)]) fun qh6 =>
 calC D qh6.1 qh6.2 h5 (fun t28 h6 =>
 let t29 := wrQ .i64 (addQ t10 (Int.ofNat 1))
 g1 t0 t1 t9 t29 h6) (panN)) (
 S74_0 D m t0 h)
def S74_1 (D : CallD) (m : Nat) : AV → AV → Int → Int → HP → Res2 := nrec (fun _ _ _ _ _ => none) (fun _ g => S74_1b D m g) m
def e74_2 (k t0 t1 h) := kN k [(p0, t0), (p1, t1)] h
def S74_2 (D : CallD) (m : Nat) (t0 t1 : AV) (h : HP) : Res2 :=
 cal D 106 [t0] h fun t7 h3 =>
 lenC t7 fun vt9 => asI .i64 vt9 fun t9 =>
 S74_1 D m t7 t1 t9 (Int.ofNat 0) h3
def S74 : SFn := fun D m args h u => nou u <| popV args fun t0 args => popV args fun t1 args => endA args (S74_2 D m t0 t1 h)
theorem T74_0 (hE : FX x74 D m E) : S74_0 D m = e74_0 (E c74_0 []) := by unfold S74_0; rw [hE c74_0]; kernel_rfl
theorem T74_1b (hE : FX x74 D m E) (G1) : S74_1b D m (e74_1 G1) = e74_1 (E c74_1b [.lp v74_1 G1, .blk 0, .sj v74_0 c74_0]) := by unfold S74_1b; rw [T74_0 hE, hE c74_1b]; kernel_rfl
theorem T74_1 (hE : FX x74 D m E) : S74_1 D m = e74_1 (nrec (fun _ => none) (fun _ G1 st => E c74_1b [.lp v74_1 G1, .blk 0, .sj v74_0 c74_0] st) m) :=
  nrec_emb e74_1 (fun _ _ _ _ _ => none) (fun g => S74_1b D m g) (fun G1 st => E c74_1b [.lp v74_1 G1, .blk 0, .sj v74_0 c74_0] st) rfl (fun g => T74_1b hE g) m
theorem T74_2 (hE : FX x74 D m E) : S74_2 D m = e74_2 (E c74_e []) := by unfold S74_2; rw [T74_1 hE, hE c74_e]; kernel_rfl
theorem X74 : XTie S74 x74 := X_of fun D m E hE args h u => by unfold S74; rw [T74_2 hE]; kernel_rfl
/- 75 -/
def v75_0 : List Pos := [p0]
def c75_0 : XC := (.sO [.mv p36 q0 .v, .mv p4 q36 .v] (.s .ret))
def v75_1 : List Pos := [p0, p1, p9, p10]
def c75_1b : XC := (.sO [.bn p11 .lss q10 q9 .b] (.seq (.cond q11 .skip (.exit 0)) (.seq (.block 1 (.seq (.oX [.mv p12 q10 tI, .mv p5 q12 tI]) (.seq (.oX [.mv p13 q0 .v, .mv p14 q5 tI, .mv p15 q0 .v, .mv p16 q5 tI, .P p17 (.iaddr (.sl 7) q15 q16) .v, .fa p18 1 q17, .ld p19 q18 .v, .mv p20 q1 .v, .cl p21 74 [q19, q20] .v, .P p22 (.iaddr (.sl 7) q13 q14) .v, .fa p23 1 q22, .st q23 q21]) (.oX [.mv p24 q0 .v, .mv p25 q5 tI, .mv p26 q0 .v, .mv p27 q5 tI, .P p28 (.iaddr (.sl 7) q26 q27) .v, .fa p29 2 q28, .ld p30 q29 .v, .mv p31 q1 .v, .cl p32 75 [q30, q31] .v, .P p33 (.iaddr (.sl 7) q24 q25) .v, .fa p34 2 q33, .st q34 q32])))) (.s (.oX [.bn p35 .add q10 (ci 1) tI, .mv p10 q35 tI])))))
def c75_e : XC := (.sO [.mv p4 (.c .nils) .v] (.sO [.mv p6 q0 .v, .cl p7 107 [q6] .v, .mv p0 q7 .v] (.sj v75_0 (.sO [.mv p8 q0 .v, .P p9 (.lenl q8) tI, .mv p10 (ci 0) tI] (.block 0 (.loop v75_1 c75_1b))) c75_0)))
def x75 : XFn := ⟨[.v, .v], false, [(.tmp p4)], c75_e⟩
def e75_0 (k t0 h) := kN k [(p0, t0)] h
def S75_0 (D : CallD) (m : Nat) (t0 : AV) (h : HP) : Res2 :=
 some (.ret t0 h, .no)
def e75_1 (k t0 t1 t9 t10 h) := kN k [(p0, t0), (p1, t1), (p9, (vI t9)), (p10, (vI t10))] h
def S75_1b (D : CallD) (m : Nat) (g1 : AV → AV → Int → Int → HP → Res2) (t0 t1 : AV) (t9 t10 : Int) (h : HP) : Res2 :=
 let t11 := ltQ t10 t9
 br t11 (
 iasC 7 t0 (vI t10) fun t17 =>
 faC 1 t17 fun t18 =>
 cellC t18 h fun t19 =>
 cal D 74 [t19, t1] h fun t21 h4 =>
 iasC 7 t0 (vI t10) fun t22 =>
 faC 1 t22 fun t23 =>
 stoC t23 t21 h4 fun h5 =>
 iasC 7 t0 (vI t10) fun t28 =>
 faC 2 t28 fun t29 =>
 cellC t29 h5 fun t30 =>
 cal D 75 [t30, t1] h5 fun t32 h6 =>
 iasC 7 t0 (vI t10) fun t33 =>
 faC 2 t33 fun t34 =>
 stoC t34 t32 h6 fun h7 =>
 let t35 := wrQ .i64 (addQ t10 (Int.ofNat 1))
 g1 t0 t1 t9 t35 h7) (
 S75_0 D m t0 h)
def S75_1 (D : CallD) (m : Nat) : AV → AV → Int → Int → HP → Res2 := nrec (fun _ _ _ _ _ => none) (fun _ g => S75_1b D m g) m
def e75_2 (k t0 t1 h) := kN k [(p0, t0), (p1, t1)] h
def S75_2 (D : CallD) (m : Nat) (t0 t1 : AV) (h : HP) : Res2 :=
 cal D 107 [t0] h fun t7 h3 =>
 lenC t7 fun vt9 => asI .i64 vt9 fun t9 =>
 S75_1 D m t7 t1 t9 (Int.ofNat 0) h3
def S75 : SFn := fun D m args h u => nou u <| popV args fun t0 args => popV args fun t1 args => endA args (S75_2 D m t0 t1 h)
theorem T75_0 (hE : FX x75 D m E) : S75_0 D m = e75_0 (E c75_0 []) := by unfold S75_0; rw [hE c75_0]; kernel_rfl
theorem T75_1b (hE : FX x75 D m E) (G1) : S75_1b D m (e75_1 G1) = e75_1 (E c75_1b [.lp v75_1 G1, .blk 0, .sj v75_0 c75_0]) := by unfold S75_1b; rw [T75_0 hE, hE c75_1b]; kernel_rfl
theorem T75_1 (hE : FX x75 D m E) : S75_1 D m = e75_1 (nrec (fun _ => none) (fun _ G1 st => E c75_1b [.lp v75_1 G1, .blk 0, .sj v75_0 c75_0] st) m) :=
  nrec_emb e75_1 (fun _ _ _ _ _ => none) (fun g => S75_1b D m g) (fun G1 st => E c75_1b [.lp v75_1 G1, .blk 0, .sj v75_0 c75_0] st) rfl (fun g => T75_1b hE g) m
theorem T75_2 (hE : FX x75 D m E) : S75_2 D m = e75_2 (E c75_e []) := by unfold S75_2; rw [T75_1 hE, hE c75_e]; kernel_rfl
theorem X75 : XTie S75 x75 := X_of fun D m E hE args h u => by unfold S75; rw [T75_2 hE]; kernel_rfl
/- 78 -/
def c78_e : XC := (.sO [.mv p2 (.c (.str [])) .s] (.sO [.mv p3 q0 tI, .cl p4 109 [q3, (ci 10)] .s, .mv p2 q4 .s] (.s .ret)))
def x78 : XFn := ⟨[tI], false, [(.tmp p2)], c78_e⟩
def e78_0 (k t0 h) := kN k [(p0, (vI t0))] h
def S78_0 (D : CallD) (m : Nat) (t0 : Int) (h : HP) : Res2 :=
 cal D 109 [(vI t0), (vI (Int.ofNat 10))] h fun t4 h1 =>
 asS t4 fun t4a =>
 some (.ret (vS t4a) h1, .no)
def S78 : SFn := fun D m args h u => nou u <| popI .i64 args fun t0 args => endA args (S78_0 D m t0 h)
theorem T78_0 (hE : FX x78 D m E) : S78_0 D m = e78_0 (E c78_e []) := by unfold S78_0; rw [hE c78_e]; kernel_rfl
theorem X78 : XTie S78 x78 := X_of fun D m E hE args h u => by unfold S78; rw [T78_0 hE]; kernel_rfl
/- 91 -/
def c91_e : XC := (.sO [.mv p6 (cb false) .b] (.sO [.mv p7 q1 tI, .mv p8 q2 .s, .P p9 (.lens q8) tI, .bn p10 .add q7 q9 tI, .mv p11 q0 .s, .P p12 (.lens q11) tI, .bn p13 .leq q10 q12 .b, .mv p14 q13 .b, .ge p14 (XL.of [.G p14 true p15 (.mov q0) .s, .G p14 true p16 (.mov q1) tI, .G p14 true p17 (.mov q1) tI, .G p14 true p18 (.mov q2) .s, .G p14 true p19 (.lens q18) tI, .G p14 true p20 (.bin .add q17 q19) tI, .G p14 true p21 (.slice .str q15 (some q16) (some q20) none) .s, .G p14 true p22 (.mov q2) .s, .G p14 true p23 (.bin .eql q21 q22) .b, .P p24 (.pick q14 q23 (cb false)) .b]) p24 .b, .mv p6 q24 .b] (.s .ret)))
def x91 : XFn := ⟨[.s, tI, .s], false, [(.tmp p6)], c91_e⟩
def e91_0 (k t0 t1 t2 h) := kN k [(p0, (vS t0)), (p1, (vI t1)), (p2, (vS t2))] h
def S91_0 (D : CallD) (m : Nat) (t0 : LN) (t1 : Int) (t2 : LN) (h : HP) : Res2 :=
 let t9 := Int.ofNat (lenL t2)
 let t10 := wrQ .i64 (addQ t1 t9)
 let t12 := Int.ofNat (lenL t0)
 let t13 := leQ t10 t12
 obB (brV t13 (
 let t19 := Int.ofNat (lenL t2)
 let t20 := wrQ .i64 (addQ t1 t19)
 slCV (vS t0) (some (vI t1)) (some (vI t20)) fun vt21 => asSV vt21 fun t21 =>
 let t23 := eqL t21 t2
 some (vB t23)) (
 some (vB false))) fun t24 =>
 some (.ret (vB t24) h, .no)
def S91 : SFn := fun D m args h u => nou u <| popS args fun t0 args => popI .i64 args fun t1 args => popS args fun t2 args => endA args (S91_0 D m t0 t1 t2 h)
theorem T91_0 (hE : FX x91 D m E) : S91_0 D m = e91_0 (E c91_e []) := by unfold S91_0; rw [hE c91_e]; kernel_rfl
theorem X91 : XTie S91 x91 := X_of fun D m E hE args h u => by unfold S91; rw [T91_0 hE]; kernel_rfl
/- 92 -/
def c92_e : XC := (.sO [.mv p2 (cb false) .b] (.sO [.mv p3 q0 tC, .bn p4 .geq q3 (.c (.int .u8 (.ofNat 97))) .b, .mv p5 q4 .b, .ge p5 (XL.of [.G p5 true p6 (.mov q0) tC, .G p5 true p7 (.bin .leq q6 (.c (.int .u8 (.ofNat 122)))) .b, .P p8 (.pick q5 q7 (cb false)) .b]) p8 .b, .mv p9 q8 .b, .ge p9 (XL.of [.G p9 false p10 (.mov q0) tC, .G p9 false p11 (.bin .geq q10 (.c (.int .u8 (.ofNat 65)))) .b, .G p9 false p12 (.mov q11) .b, .ge p12 (XL.of [.G p12 true p13 (.mov q0) tC, .G p12 true p14 (.bin .leq q13 (.c (.int .u8 (.ofNat 90)))) .b, .G p9 false p15 (.pick q12 q14 (cb false)) .b]) p15 .b, .P p16 (.pick q9 (cb true) q15) .b]) p16 .b, .mv p17 q16 .b, .ge p17 (XL.of [.G p17 false p18 (.mov q0) tC, .G p17 false p19 (.bin .eql q18 (.c (.int .u8 (.ofNat 95)))) .b, .P p20 (.pick q17 (cb true) q19) .b]) p20 .b, .mv p2 q20 .b] (.s .ret)))
def x92 : XFn := ⟨[tC], false, [(.tmp p2)], c92_e⟩
def e92_0 (k t0 h) := kN k [(p0, (vC t0))] h
def S92_0 (D : CallD) (m : Nat) (t0 : Int) (h : HP) : Res2 :=
 let t4 := leQ (Int.ofNat 97) t0
 obB (brV t4 (
 let t7 := leQ t0 (Int.ofNat 122)
 some (vB t7)) (
 some (vB false))) fun t8 =>
 obB (brV t8 (
 some (vB true)) (
 let t11 := leQ (Int.ofNat 65) t0
 obBV (brV t11 (
 let t14 := leQ t0 (Int.ofNat 90)
 some (vB t14)) (
 some (vB false))) fun t15 =>
 some (vB t15))) fun t16 =>
 obB (brV t16 (
 some (vB true)) (
 let t19 := eqQ t0 (Int.ofNat 95)
 some (vB t19))) fun t20 =>
 some (.ret (vB t20) h, .no)
def S92 : SFn := fun D m args h u => nou u <| popI .u8 args fun t0 args => endA args (S92_0 D m t0 h)
theorem T92_0 (hE : FX x92 D m E) : S92_0 D m = e92_0 (E c92_e []) := by unfold S92_0; rw [hE c92_e]; kernel_rfl
theorem X92 : XTie S92 x92 := X_of fun D m E hE args h u => by unfold S92; rw [T92_0 hE]; kernel_rfl
/- 93 -/
def c93_e : XC := (.sO [.mv p2 (cb false) .b] (.sO [.mv p3 q0 tC, .bn p4 .geq q3 (.c (.int .u8 (.ofNat 48))) .b, .mv p5 q4 .b, .ge p5 (XL.of [.G p5 true p6 (.mov q0) tC, .G p5 true p7 (.bin .leq q6 (.c (.int .u8 (.ofNat 57)))) .b, .P p8 (.pick q5 q7 (cb false)) .b]) p8 .b, .mv p2 q8 .b] (.s .ret)))
def x93 : XFn := ⟨[tC], false, [(.tmp p2)], c93_e⟩
def e93_0 (k t0 h) := kN k [(p0, (vC t0))] h
def S93_0 (D : CallD) (m : Nat) (t0 : Int) (h : HP) : Res2 :=
 let t4 := leQ (Int.ofNat 48) t0
 obB (brV t4 (
 let t7 := leQ t0 (Int.ofNat 57)
 some (vB t7)) (
 some (vB false))) fun t8 =>
 some (.ret (vB t8) h, .no)
def S93 : SFn := fun D m args h u => nou u <| popI .u8 args fun t0 args => endA args (S93_0 D m t0 h)
theorem T93_0 (hE : FX x93 D m E) : S93_0 D m = e93_0 (E c93_e []) := by unfold S93_0; rw [hE c93_e]; kernel_rfl
theorem X93 : XTie S93 x93 := X_of fun D m E hE args h u => by unfold S93; rw [T93_0 hE]; kernel_rfl
/- 94 -/
def v94_0 : List Pos := []
def c94_0 : XC := (.sO [.mv p2 (cb false) .b] (.s .ret))
def v94_1 : List Pos := [p0, p3, p6]
def c94_1b : XC := (.sO [.bn p7 .lss q6 (ci 11) .b] (.seq (.cond q7 .skip (.exit 0)) (.seq (.block 1 (.seq (.oX [.mv p8 q6 tI, .mv p4 q8 tI]) (.seq (.oX [.mv p9 q4 tI, .P p10 (.iaddr (.arr 11 1) q3 q9) .v, .ld p11 q10 .s, .mv p12 q0 .s, .bn p13 .eql q11 q12 .b]) (.cond q13 (.seq (.oX [.mv p2 (cb true) .b]) .ret) .skip)))) (.s (.oX [.bn p14 .add q6 (ci 1) tI, .mv p6 q14 tI])))))
def c94_e : XC := (.sO [.mv p2 (cb false) .b] (.sO [.P p5 (.build [(.str []), (.str []), (.str []), (.str []), (.str []), (.str []), (.str []), (.str []), (.str []), (.str []), (.str [])] [⟨0, 1, (.c (.str [105, 110, 116]))⟩, ⟨1, 1, (.c (.str [100, 111, 117, 98, 108, 101]))⟩, ⟨2, 1, (.c (.str [118, 111, 105, 100]))⟩, ⟨3, 1, (.c (.str [115, 116, 97, 116, 105, 99]))⟩, ⟨4, 1, (.c (.str [101, 120, 116, 101, 114, 110]))⟩, ⟨5, 1, (.c (.str [105, 102]))⟩, ⟨6, 1, (.c (.str [101, 108, 115, 101]))⟩, ⟨7, 1, (.c (.str [119, 104, 105, 108, 101]))⟩, ⟨8, 1, (.c (.str [114, 101, 116, 117, 114, 110]))⟩, ⟨9, 1, (.c (.str [98, 114, 101, 97, 107]))⟩, ⟨10, 1, (.c (.str [99, 111, 110, 116, 105, 110, 117, 101]))⟩]) .v, .al p3 (.new [(.str []), (.str []), (.str []), (.str []), (.str []), (.str []), (.str []), (.str []), (.str []), (.str []), (.str [])]), .ss 11 q3 q5] (.sj v94_0 (.sO [.mv p6 (ci 0) tI] (.block 0 (.loop v94_1 c94_1b))) c94_0)))
def x94 : XFn := ⟨[.s], false, [(.tmp p2)], c94_e⟩
def e94_0 (k h) := kN k [] h
def S94_0 (D : CallD) (m : Nat) (h : HP) : Res2 :=
 some (.ret (vB false) h, .no)
def e94_1 (k t0 t3 t6 h) := kN k [(p0, (vS t0)), (p3, t3), (p6, (vI t6))] h
def S94_1b (D : CallD) (m : Nat) (g1 : LN → AV → Int → HP → Res2) (t0 : LN) (t3 : AV) (t6 : Int) (h : HP) : Res2 :=
 let t7 := ltQ t6 (Int.ofNat 11)
 br t7 (
 iarC 11 1 t3 (vI t6) fun t10 =>
 ldS t10 h fun t11 =>
 let t13 := eqL t11 t0
 br t13 (
 some (.ret (vB true) h, .no)) (
 let t14 := wrQ .i64 (addQ t6 (Int.ofNat 1))
 g1 t0 t3 t14 h)) (
 S94_0 D m h)
def S94_1 (D : CallD) (m : Nat) : LN → AV → Int → HP → Res2 := nrec (fun _ _ _ _ => none) (fun _ g => S94_1b D m g) m
def e94_2 (k t0 h) := kN k [(p0, (vS t0))] h
def S94_2 (D : CallD) (m : Nat) (t0 : LN) (h : HP) : Res2 :=
 let t5 := (AV.agg [(vS ([105, 110, 116] : LN)), (vS ([100, 111, 117, 98, 108, 101] : LN)), (vS ([118, 111, 105, 100] : LN)), (vS ([115, 116, 97, 116, 105, 99] : LN)), (vS ([101, 120, 116, 101, 114, 110] : LN)), (vS ([105, 102] : LN)), (vS ([101, 108, 115, 101] : LN)), (vS ([119, 104, 105, 108, 101] : LN)), (vS ([114, 101, 116, 117, 114, 110] : LN)), (vS ([98, 114, 101, 97, 107] : LN)), (vS ([99, 111, 110, 116, 105, 110, 117, 101] : LN))])
 let t3 := AV.ptr (HP.nxQ h) 0
 let h3 := HP.newQ h (.cells true [(.str []), (.str []), (.str []), (.str []), (.str []), (.str []), (.str []), (.str []), (.str []), (.str []), (.str [])])
 stsC 11 t3 t5 h3 fun h4 =>
 S94_1 D m t0 t3 (Int.ofNat 0) h4
def S94 : SFn := fun D m args h u => nou u <| popS args fun t0 args => endA args (S94_2 D m t0 h)
theorem T94_0 (hE : FX x94 D m E) : S94_0 D m = e94_0 (E c94_0 []) := by unfold S94_0; rw [hE c94_0]; kernel_rfl
theorem T94_1b (hE : FX x94 D m E) (G1) : S94_1b D m (e94_1 G1) = e94_1 (E c94_1b [.lp v94_1 G1, .blk 0, .sj v94_0 c94_0]) := by unfold S94_1b; rw [T94_0 hE, hE c94_1b]; kernel_rfl
theorem T94_1 (hE : FX x94 D m E) : S94_1 D m = e94_1 (nrec (fun _ => none) (fun _ G1 st => E c94_1b [.lp v94_1 G1, .blk 0, .sj v94_0 c94_0] st) m) :=
  nrec_emb e94_1 (fun _ _ _ _ => none) (fun g => S94_1b D m g) (fun G1 st => E c94_1b [.lp v94_1 G1, .blk 0, .sj v94_0 c94_0] st) rfl (fun g => T94_1b hE g) m
theorem T94_2 (hE : FX x94 D m E) : S94_2 D m = e94_2 (E c94_e []) := by unfold S94_2; rw [T94_1 hE, hE c94_e]; kernel_rfl
theorem X94 : XTie S94 x94 := X_of fun D m E hE args h u => by unfold S94; rw [T94_2 hE]; kernel_rfl
/- 95 -/
def v95_2 : List Pos := [p6, p7]
def c95_2 : XC := (.sO [.mv p100 q7 tI, .mv p101 q6 tI, .mv p4 q100 tI, .mv p5 q101 tI] (.s .ret))
def c95_4 : XC := (.cond q99 (.sO [.mv p4 (ci 0) tI, .mv p5 (ci 0) tI] (.s .ret)) (.s .skip))
def l95_3 : XL := (XL.of [])
def v95_1 : List Pos := [p0, p1, p6, p7]
def c95_1 : XC := (.sj v95_2 (.sO [.mv p86 q7 tI, .bn p87 .eql q86 (ci 2) .b] (.cond q87 (.opq false (XL.pre [.mv p88 q6 tI, .mv p89 q1 tI, .bn p90 .sub q88 q89 tI, .bn p91 .gtr q90 (ci 10) .b, .mv p92 q91 .b, .sp p92, .G p92 false p93 (.mov q0) .s, .G p92 false p94 (.mov q1) tI, .G p92 false p95 (.mov q6) tI, .G p92 false p96 (.slice .str q93 (some q94) (some q95) none) .s, .o ⟨(some p97), (.call (.fn 98) [q96]), (some (p92, false)), []⟩ tI, .G p92 false p98 (.bin .gtr q97 (ci 4294967295)) .b, .P p99 (.pick q92 (cb true) q98) .b, .jn p92 [p6, p7, p99]] l95_3) c95_4) (.s .skip))) c95_2)
def c95_8 : XC := (.cond q85 (.sO [.mv p4 (ci 0) tI, .mv p5 (ci 0) tI] (.s .ret)) (.s .skip))
def l95_7 : XL := (XL.of [])
def l95_6 : XL := (XL.pre [.P p85 (.pick q74 (cb true) q84) .b, .jn p74 [p0, p1, p6, p7, p85]] l95_7)
def l95_5 : XL := (XL.pre [.mv p74 q73 .b, .sp p74, .G p74 false p75 (.mov q7) tI, .G p74 false p76 (.bin .eql q75 (ci 3)) .b, .G p74 false p77 (.mov q76) .b, .sp p77, .G p77 true p78 (.mov q0) .s, .G p77 true p79 (.mov q1) tI, .G p77 true p80 (.mov q6) tI, .G p77 true p81 (.slice .str q78 (some q79) (some q80) none) .s, .o ⟨(some p82), (.call (.fn 117) [q81]), (some (p77, true)), []⟩ .b, .G p77 true p83 (.un .not q82) .b, .G p74 false p84 (.pick q77 q83 (cb false)) .b, .jn p77 [p0, p1, p6, p7, p74, p84]] l95_6)
def v95_0 : List Pos := [p0, p1, p6, p7]
def c95_0 : XC := (.sj v95_1 (.opq false (XL.pre [.mv p58 q6 tI, .mv p59 q0 .s, .P p60 (.lens q59) tI, .bn p61 .lss q58 q60 .b, .mv p62 q61 .b, .sp p62, .G p62 true p63 (.mov q0) .s, .G p62 true p64 (.mov q6) tI, .G p62 true p65 (.idxs q63 q64) tC, .o ⟨(some p66), (.call (.fn 92) [q65]), (some (p62, true)), []⟩ .b, .G p62 true p67 (.mov q66) .b, .ge p67 (XL.of [.G p67 false p68 (.mov q0) .s, .G p67 false p69 (.mov q6) tI, .G p67 false p70 (.idxs q68 q69) tC, .G p67 false p71 (.bin .eql q70 (.c (.int .u8 (.ofNat 46)))) .b, .G p62 true p72 (.pick q67 (cb true) q71) .b]) p72 .b, .P p73 (.pick q62 q72 (cb false)) .b, .jn p62 [p0, p1, p6, p7, p73]] l95_5) c95_8) c95_1)
def v95_9 : List Pos := [p0, p1, p6, p7]
def c95_9 : XC := (.s (.oX [.mv p55 q0 .s, .mv p56 q6 tI, .cl p57 116 [q55, q56] tI, .mv p6 q57 tI]))
def c95_e : XC := (.sO [.mv p4 (ci 0) tI, .mv p5 (ci 0) tI] (.sO [.mv p8 q0 .s, .mv p9 q1 tI, .cl p10 116 [q8, q9] tI, .mv p6 q10 tI] (.sO [.mv p7 (ci 2) tI] (.sj v95_0 (.sO [.mv p11 q6 tI, .mv p12 q0 .s, .P p13 (.lens q12) tI, .bn p14 .lss q11 q13 .b, .mv p15 q14 .b, .ge p15 (XL.of [.G p15 true p16 (.mov q0) .s, .G p15 true p17 (.mov q6) tI, .G p15 true p18 (.idxs q16 q17) tC, .G p15 true p19 (.bin .eql q18 (.c (.int .u8 (.ofNat 46)))) .b, .P p20 (.pick q15 q19 (cb false)) .b]) p20 .b] (.cond q20 (.sO [.mv p7 (ci 3) tI] (.sO [.mv p21 q0 .s, .mv p22 q6 tI, .bn p23 .add q22 (ci 1) tI, .cl p24 116 [q21, q23] tI, .mv p6 q24 tI] (.sO [.mv p25 q6 tI, .mv p26 q0 .s, .P p27 (.lens q26) tI, .bn p28 .lss q25 q27 .b, .mv p29 q28 .b, .ge p29 (XL.of [.G p29 true p30 (.mov q0) .s, .G p29 true p31 (.mov q6) tI, .G p29 true p32 (.idxs q30 q31) tC, .G p29 true p33 (.bin .eql q32 (.c (.int .u8 (.ofNat 101)))) .b, .P p34 (.pick q29 q33 (cb false)) .b]) p34 .b] (.cond q34 (.sO [.mv p35 q6 tI, .bn p36 .add q35 (ci 1) tI, .mv p6 q36 tI] (.sj v95_9 (.sO [.mv p37 q6 tI, .mv p38 q0 .s, .P p39 (.lens q38) tI, .bn p40 .lss q37 q39 .b, .mv p41 q40 .b, .ge p41 (XL.of [.G p41 true p42 (.mov q0) .s, .G p41 true p43 (.mov q6) tI, .G p41 true p44 (.idxs q42 q43) tC, .G p41 true p45 (.bin .eql q44 (.c (.int .u8 (.ofNat 43)))) .b, .G p41 true p46 (.mov q45) .b, .ge p46 (XL.of [.G p46 false p47 (.mov q0) .s, .G p46 false p48 (.mov q6) tI, .G p46 false p49 (.idxs q47 q48) tC, .G p46 false p50 (.bin .eql q49 (.c (.int .u8 (.ofNat 45)))) .b, .G p41 true p51 (.pick q46 (cb true) q50) .b]) p51 .b, .P p52 (.pick q41 q51 (cb false)) .b]) p52 .b] (.cond q52 (.s (.oX [.mv p53 q6 tI, .bn p54 .add q53 (ci 1) tI, .mv p6 q54 tI])) (.s .skip))) c95_9)) (.s .skip))))) (.s .skip))) c95_0))))
def x95 : XFn := ⟨[.s, tI], false, [(.tmp p4), (.tmp p5)], c95_e⟩
def e95_2 (k t6 t7 h) := kN k [(p6, (vI t6)), (p7, (vI t7))] h
def S95_2 (D : CallD) (m : Nat) (t6 t7 : Int) (h : HP) : Res2 :=
 some (.ret (.tup [(vI t7), (vI t6)]) h, .no)
def e95_3 (k t6 t7 t99 h) := kN k [(p6, (vI t6)), (p7, (vI t7)), (p99, (vB t99))] h
def S95_3 (D : CallD) (m : Nat) (t6 t7 : Int) (t99 : Bool) (h : HP) : Res2 :=
 br t99 (
 some (.ret (.tup [(vI (Int.ofNat 0)), (vI (Int.ofNat 0))]) h, .no)) (
 S95_2 D m t6 t7 h)
def e95_1 (k t0 t1 t6 t7 h) := kN k [(p0, (vS t0)), (p1, (vI t1)), (p6, (vI t6)), (p7, (vI t7))] h
def S95_1 (D : CallD) (m : Nat) (t0 : LN) (t1 t6 t7 : Int) (h : HP) : Res2 :=
 let t87 := eqQ t7 (Int.ofNat 2)
 br t87 (
 let t90 := wrQ .i64 (t6 - t1)
 let t91 := ltQ (Int.ofNat 10) t90
 br t91 (
 S95_3 D m t6 t7 true h) (
 slC (vS t0) (some (vI t1)) (some (vI t6)) fun vt96 => asS vt96 fun t96 =>
 cal D 98 [(vS t96)] h fun t97 h12 =>
 asI .i64 t97 fun t97a =>
 let t98 := ltQ (Int.ofNat 4294967295) t97a
 S95_3 D m t6 t7 t98 h12)) (
 S95_2 D m t6 t7 h)
def e95_7 (k t0 t1 t6 t7 t85 h) := kN k [(p0, (vS t0)), (p1, (vI t1)), (p6, (vI t6)), (p7, (vI t7)), (p85, (vB t85))] h
def S95_7 (D : CallD) (m : Nat) (t0 : LN) (t1 t6 t7 : Int) (t85 : Bool) (h : HP) : Res2 :=
 br t85 (
 some (.ret (.tup [(vI (Int.ofNat 0)), (vI (Int.ofNat 0))]) h, .no)) (
 S95_1 D m t0 t1 t6 t7 h)
def e95_6 (k t0 t1 t6 t7 t74 t84 h) := kN k [(p0, (vS t0)), (p1, (vI t1)), (p6, (vI t6)), (p7, (vI t7)), (p74, (vB t74)), (p84, (vB t84))] h
def S95_6 (D : CallD) (m : Nat) (t0 : LN) (t1 t6 t7 : Int) (t74 t84 : Bool) (h : HP) : Res2 :=
 obB (brV t74 (some (vB true)) (some (vB t84))) fun t85 =>
 S95_7 D m t0 t1 t6 t7 t85 h
def e95_5 (k t0 t1 t6 t7 t73 h) := kN k [(p0, (vS t0)), (p1, (vI t1)), (p6, (vI t6)), (p7, (vI t7)), (p73, (vB t73))] h
def S95_5 (D : CallD) (m : Nat) (t0 : LN) (t1 t6 t7 : Int) (t73 : Bool) (h : HP) : Res2 :=
 br t73 (
 S95_7 D m t0 t1 t6 t7 true h) (
 let t76 := eqQ t7 (Int.ofNat 3)
 br t76 (
 slC (vS t0) (some (vI t1)) (some (vI t6)) fun vt81 => asS vt81 fun t81 =>
 cal D 117 [(vS t81)] h fun t82 h14 =>
 asB t82 fun t82a =>
 let t83 := !t82a
 S95_6 D m t0 t1 t6 t7 false t83 h14) (
 S95_6 D m t0 t1 t6 t7 false false h))
def e95_0 (k t0 t1 t6 t7 h) := kN k [(p0, (vS t0)), (p1, (vI t1)), (p6, (vI t6)), (p7, (vI t7))] h
def S95_0 (D : CallD) (m : Nat) (t0 : LN) (t1 t6 t7 : Int) (h : HP) : Res2 :=
 let t60 := Int.ofNat (lenL t0)
 let t61 := ltQ t6 t60
 br t61 (
 ixC (vS t0) (vI t6) fun vt65 => asI .u8 vt65 fun t65 =>
 cal D 92 [(vC t65)] h fun t66 h13 =>
 asB t66 fun t66a =>
 obB (brV t66a (
 some (vB true)) (
 ixCV (vS t0) (vI t6) fun vt70 => asIV .u8 vt70 fun t70 =>
 let t71 := eqQ t70 (Int.ofNat 46)
 some (vB t71))) fun t72 =>
 S95_5 D m t0 t1 t6 t7 t72 h13) (
 S95_5 D m t0 t1 t6 t7 false h)
def e95_9 (k t0 t1 t6 t7 h) := kN k [(p0, (vS t0)), (p1, (vI t1)), (p6, (vI t6)), (p7, (vI t7))] h
def S95_9 (D : CallD) (m : Nat) (t0 : LN) (t1 t6 t7 : Int) (h : HP) : Res2 :=
 cal D 116 [(vS t0), (vI t6)] h fun t57 h16 =>
 asI .i64 t57 fun t57a =>
 S95_0 D m t0 t1 t57a t7 h16
def e95_10 (k t0 t1 h) := kN k [(p0, (vS t0)), (p1, (vI t1))] h
def S95_10 (D : CallD) (m : Nat) (t0 : LN) (t1 : Int) (h : HP) : Res2 :=
 cal D 116 [(vS t0), (vI t1)] h fun t10 h11 =>
 asI .i64 t10 fun t10a =>
 let t13 := Int.ofNat (lenL t0)
 let t14 := ltQ t10a t13
 obB (brV t14 (
 ixCV (vS t0) (vI t10a) fun vt18 => asIV .u8 vt18 fun t18 =>
 let t19 := eqQ t18 (Int.ofNat 46)
 some (vB t19)) (
 some (vB false))) fun t20 =>
 br t20 (
 let t23 := wrQ .i64 (addQ t10a (Int.ofNat 1))
 cal D 116 [(vS t0), (vI t23)] h11 fun t24 h15 =>
 asI .i64 t24 fun t24a =>
 let t27 := Int.ofNat (lenL t0)
 let t28 := ltQ t24a t27
 obB (brV t28 (
 ixCV (vS t0) (vI t24a) fun vt32 => asIV .u8 vt32 fun t32 =>
 let t33 := eqQ t32 (Int.ofNat 101)
 some (vB t33)) (
 some (vB false))) fun t34 =>
 br t34 (
 let t36 := wrQ .i64 (addQ t24a (Int.ofNat 1))
 let t39 := Int.ofNat (lenL t0)
 let t40 := ltQ t36 t39
 obB (brV t40 (
 ixCV (vS t0) (vI t36) fun vt44 => asIV .u8 vt44 fun t44 =>
 let t45 := eqQ t44 (Int.ofNat 43)
 obBV (brV t45 (
 some (vB true)) (
 ixCV (vS t0) (vI t36) fun vt49 => asIV .u8 vt49 fun t49 =>
 let t50 := eqQ t49 (Int.ofNat 45)
 some (vB t50))) fun t51 =>
 some (vB t51)) (
 some (vB false))) fun t52 =>
 br t52 (
 let t54 := wrQ .i64 (addQ t36 (Int.ofNat 1))
 S95_9 D m t0 t1 t54 (Int.ofNat 3) h15) (
 S95_9 D m t0 t1 t36 (Int.ofNat 3) h15)) (
 S95_0 D m t0 t1 t24a (Int.ofNat 3) h15)) (
 S95_0 D m t0 t1 t10a (Int.ofNat 2) h11)
def S95 : SFn := fun D m args h u => nou u <| popS args fun t0 args => popI .i64 args fun t1 args => endA args (S95_10 D m t0 t1 h)
theorem T95_2 (hE : FX x95 D m E) : S95_2 D m = e95_2 (E c95_2 []) := by unfold S95_2; rw [hE c95_2]; kernel_rfl
theorem T95_3 (hE : FX x95 D m E) : S95_3 D m = e95_3 (E (.opq false l95_3 c95_4) [.sj v95_2 c95_2]) := by unfold S95_3; rw [T95_2 hE, hE (.opq false l95_3 c95_4)]; kernel_rfl
theorem T95_1 (hE : FX x95 D m E) : S95_1 D m = e95_1 (E c95_1 []) := by unfold S95_1; rw [T95_3 hE, T95_2 hE, hE c95_1]; kernel_rfl
theorem T95_7 (hE : FX x95 D m E) : S95_7 D m = e95_7 (E (.opq false l95_7 c95_8) [.sj v95_1 c95_1]) := by unfold S95_7; rw [T95_1 hE, hE (.opq false l95_7 c95_8)]; kernel_rfl
theorem T95_6 (hE : FX x95 D m E) : S95_6 D m = e95_6 (E (.opq false l95_6 c95_8) [.sj v95_1 c95_1]) := by unfold S95_6; rw [T95_7 hE, hE (.opq false l95_6 c95_8)]; kernel_rfl
theorem T95_5 (hE : FX x95 D m E) : S95_5 D m = e95_5 (E (.opq false l95_5 c95_8) [.sj v95_1 c95_1]) := by unfold S95_5; rw [T95_7 hE, T95_6 hE, hE (.opq false l95_5 c95_8)]; kernel_rfl
theorem T95_0 (hE : FX x95 D m E) : S95_0 D m = e95_0 (E c95_0 []) := by unfold S95_0; rw [T95_5 hE, hE c95_0]; kernel_rfl
theorem T95_9 (hE : FX x95 D m E) : S95_9 D m = e95_9 (E c95_9 [.sj v95_0 c95_0]) := by unfold S95_9; rw [T95_0 hE, hE c95_9]; kernel_rfl
theorem T95_10 (hE : FX x95 D m E) : S95_10 D m = e95_10 (E c95_e []) := by unfold S95_10; rw [T95_9 hE, T95_0 hE, hE c95_e]; kernel_rfl
theorem X95 : XTie S95 x95 := X_of fun D m E hE args h u => by unfold S95; rw [T95_10 hE]; kernel_rfl
/- 97 -/
def c97_e : XC := (.sO [.al p1 (.box q0), .al p2 (.new [.nils, (kI 0), (kI 0), (kI 0), (kI 0)]), .al p3 (.new [(kI 0), .nils, .nils, (.str []), (kI 0), (kI 0), (kI 0)])] (.sO [.L p6 (.cells 5 q1) .v, .cl p7 100 [q6] .v, .cl p8 118 [q7] .v, .mv p5 q8 .v, .P p9 (.ext q5 0) .v, .P p10 (.ext q5 1) .v, .al p4 (.new [(kI 0), .nils, .nils, (.str []), (kI 0), (kI 0), (kI 0)]), .ss 5 q1 q9, .ss 7 q4 q10] (.seq (.ops true (XL.of [.L p11 (.cells 5 q1) .v, .L p13 (.cells 7 q4) .v, .o ⟨(some p12), (.call (.fn 101) [q11]), none, [⟨none, .cells 7 q4, p13⟩]⟩ .v, .o ⟨none, (.e (.stores 5 q2 q12)), none, [⟨none, .cells 7 q4, p13⟩]⟩ .v, .ss 7 q3 q13])) (.s .ret))))
def x97 : XFn := ⟨[.v], false, [(.cells 5 p2), (.cells 7 p3)], c97_e⟩
def e97_0 (k t0 h) := kN k [(p0, t0)] h
def S97_0 (D : CallD) (m : Nat) (t0 : AV) (h : HP) : Res2 :=
 let t1 := AV.ptr (HP.nxQ h) 0
 let h1 := HP.newQ h (.cells true (AV.cells t0))
 let t2 := AV.ptr (HP.nxQ h1) 0
 let h2 := HP.newQ h1 (.cells true [.nils, (kI 0), (kI 0), (kI 0), (kI 0)])
 let t3 := AV.ptr (HP.nxQ h2) 0
 let h3 := HP.newQ h2 (.cells true [(kI 0), .nils, .nils, (.str []), (kI 0), (kI 0), (kI 0)])
 cellsC 5 t1 h3 fun t6 =>
 cal D 100 [t6] h3 fun t7 h4 =>
 cal D 118 [t7] h4 fun t8 h5 =>
 extC t8 0 fun t9 =>
 extC t8 1 fun t10 =>
 let t4 := AV.ptr (HP.nxQ h5) 0
 let h6 := HP.newQ h5 (.cells true [(kI 0), .nils, .nils, (.str []), (kI 0), (kI 0), (kI 0)])
 stsC 5 t1 t9 h6 fun h7 =>
 stsC 7 t4 t10 h7 fun h8 =>
 cellsC 5 t1 h8 fun t11 =>
 cellsC 7 t4 h8 fun t13 =>
 cal D 101 [t11] h8 fun t12 h9 =>
 br (again [⟨none, .cells 7 q4, p13⟩] (mkT [(p13, t13), (p4, t4)]) h9) (
 stsC 5 t2 t12 h9 fun h10 =>
 br (againE (.stores 5 q2 q12) [⟨none, .cells 7 q4, p13⟩] (mkT [(p2, t2), (p13, t13), (p4, t4)]) h10) (
 stsC 7 t3 t13 h10 fun h11 =>
 cellsC 5 t2 h11 fun t2a =>
 cellsC 7 t3 h11 fun t3a =>
 some (.ret (.tup [t2a, t3a]) h11, .no)) none) none
def S97 : SFn := fun D m args h u => nou u <| popV args fun t0 args => endA args (S97_0 D m t0 h)
theorem T97_0 (hE : FX x97 D m E) : S97_0 D m = e97_0 (E c97_e []) := by unfold S97_0; rw [hE c97_e]; kernel_rfl
theorem X97 : XTie S97 x97 := X_of fun D m E hE args h u => by unfold S97; rw [T97_0 hE]; kernel_rfl
/- 98 -/
def v98_0 : List Pos := [p3]
def c98_0 : XC := (.sO [.mv p19 q3 tI, .mv p2 q19 tI] (.s .ret))
def v98_1 : List Pos := [p0, p3, p4]
def c98_1b : XC := (.seq (.seq (.oX [.mv p5 q4 tI, .mv p6 q0 .s, .P p7 (.lens q6) tI, .bn p8 .lss q5 q7 .b]) (.cond q8 .skip (.exit 0))) (.seq (.block 1 (.oX [.mv p11 q3 tI, .bn p12 .mul q11 (ci 10) tI, .mv p13 q0 .s, .mv p14 q4 tI, .P p15 (.idxs q13 q14) tC, .bn p16 .sub q15 (.c (.int .u8 (.ofNat 48))) tC, .P p17 (.conv (.ii .i64) q16) tI, .bn p18 .add q12 q17 tI, .mv p3 q18 tI])) (.s (.oX [.mv p9 q4 tI, .bn p10 .add q9 (ci 1) tI, .mv p4 q10 tI]))))
def c98_e : XC := (.sO [.mv p2 (ci 0) tI] (.sO [.mv p3 (ci 0) tI] (.sj v98_0 (.sO [.mv p4 (ci 0) tI] (.block 0 (.loop v98_1 c98_1b))) c98_0)))
def x98 : XFn := ⟨[.s], false, [(.tmp p2)], c98_e⟩
def e98_0 (k t3 h) := kN k [(p3, (vI t3))] h
def S98_0 (D : CallD) (m : Nat) (t3 : Int) (h : HP) : Res2 :=
 some (.ret (vI t3) h, .no)
def e98_1 (k t0 t3 t4 h) := kN k [(p0, (vS t0)), (p3, (vI t3)), (p4, (vI t4))] h
def S98_1b (D : CallD) (m : Nat) (g1 : LN → Int → Int → HP → Res2) (t0 : LN) (t3 t4 : Int) (h : HP) : Res2 :=
 let t7 := Int.ofNat (lenL t0)
 let t8 := ltQ t4 t7
 br t8 (
 let t12 := wrQ .i64 (t3 * (Int.ofNat 10))
 ixC (vS t0) (vI t4) fun vt15 => asI .u8 vt15 fun t15 =>
 let t16 := wrQ .u8 (t15 - (Int.ofNat 48))
 let t17 := wrapF .i64 t16
 let t18 := wrQ .i64 (addQ t12 t17)
 let t10 := wrQ .i64 (addQ t4 (Int.ofNat 1))
 g1 t0 t18 t10 h) (
 S98_0 D m t3 h)
def S98_1 (D : CallD) (m : Nat) : LN → Int → Int → HP → Res2 := nrec (fun _ _ _ _ => none) (fun _ g => S98_1b D m g) m
def e98_2 (k t0 h) := kN k [(p0, (vS t0))] h
def S98_2 (D : CallD) (m : Nat) (t0 : LN) (h : HP) : Res2 :=
 S98_1 D m t0 (Int.ofNat 0) (Int.ofNat 0) h
def S98 : SFn := fun D m args h u => nou u <| popS args fun t0 args => endA args (S98_2 D m t0 h)
theorem T98_0 (hE : FX x98 D m E) : S98_0 D m = e98_0 (E c98_0 []) := by unfold S98_0; rw [hE c98_0]; kernel_rfl
theorem T98_1b (hE : FX x98 D m E) (G1) : S98_1b D m (e98_1 G1) = e98_1 (E c98_1b [.lp v98_1 G1, .blk 0, .sj v98_0 c98_0]) := by unfold S98_1b; rw [T98_0 hE, hE c98_1b]; kernel_rfl
theorem T98_1 (hE : FX x98 D m E) : S98_1 D m = e98_1 (nrec (fun _ => none) (fun _ G1 st => E c98_1b [.lp v98_1 G1, .blk 0, .sj v98_0 c98_0] st) m) :=
  nrec_emb e98_1 (fun _ _ _ _ => none) (fun g => S98_1b D m g) (fun G1 st => E c98_1b [.lp v98_1 G1, .blk 0, .sj v98_0 c98_0] st) rfl (fun g => T98_1b hE g) m
theorem T98_2 (hE : FX x98 D m E) : S98_2 D m = e98_2 (E c98_e []) := by unfold S98_2; rw [T98_1 hE, hE c98_e]; kernel_rfl
theorem X98 : XTie S98 x98 := X_of fun D m E hE args h u => by unfold S98; rw [T98_2 hE]; kernel_rfl
/- 99 -/
def v99_0 : List Pos := [p2, p4, p5, p6]
def c99_0 : XC := (.seq (.ops true (XL.of [.L p51 (.cells 5 q2) .v, .L p52 (.cells 8 q6) .v, .o ⟨none, (.e (.stores 5 q4 q51)), none, [⟨none, .cells 8 q6, p52⟩]⟩ .v, .ss 8 q5 q52])) (.s .ret))
def v99_2 : List Pos := [p1, p2, p4, p5, p6]
def c99_2 : XC := (.block 1 (.sO [.L p31 (.cells 5 q2) .v, .cl p32 28 [q31] .v, .P p33 (.field 1 1 false q32) .s, .mv p7 q33 .s] (.sO [.P p34 (.build [(kI 0), (.str []), (.str []), (.int .u32 (.ofNat 0)), (.int .u64 (.ofNat 0)), .nils, (kI 0), (kI 0)] []) .v, .al p8 (.new [(kI 0), (.str []), (.str []), (.int .u32 (.ofNat 0)), (.int .u64 (.ofNat 0)), .nils, (kI 0), (kI 0)]), .ss 8 q8 q34] (.sO [.L p36 (.cells 5 q2) .v, .cl p37 55 [q36] .v, .mv p38 q7 .s, .cl p39 120 [q38] tI, .bn p40 .add q39 (ci 1) tI, .cl p41 99 [q37, q40] .v, .mv p35 q41 .v, .P p42 (.ext q35 0) .v, .P p43 (.ext q35 1) .v, .ss 5 q2 q42, .ss 8 q8 q43] (.s (.oX [.mv p44 q7 .s, .L p45 (.cells 8 q6) .v, .L p46 (.cells 8 q8) .v, .al p47 (.bsl [(kI 0), (.str []), (.str []), (.int .u32 (.ofNat 0)), (.int .u64 (.ofNat 0)), .nils, (kI 0), (kI 0), (kI 0), (.str []), (.str []), (.int .u32 (.ofNat 0)), (.int .u64 (.ofNat 0)), .nils, (kI 0), (kI 0)] 2 [⟨0, 8, q45⟩, ⟨8, 8, q46⟩]), .fa p48 7 q6, .ld p49 q48 tI, .P p50 (.build [(kI 0), (.str []), (.str []), (.int .u32 (.ofNat 0)), (.int .u64 (.ofNat 0)), .nils, (kI 0), (kI 0)] [⟨0, 1, (ci 5)⟩, ⟨1, 1, q44⟩, ⟨5, 1, q47⟩, ⟨7, 1, q49⟩]) .v, .ss 8 q6 q50]))))))
def c99_5 : XC := (.cond q30 (.s .skip) (.s (.exit 0)))
def l99_4 : XL := (XL.of [])
def l99_3 : XL := (XL.pre [.mv p23 q22 .b, .sp p23, .o ⟨(some p24), (.l (.cells 5 q2)), (some (p23, true)), []⟩ .v, .o ⟨(some p25), (.call (.fn 28) [q24]), (some (p23, true)), []⟩ .v, .G p23 true p26 (.field 1 1 false q25) .s, .o ⟨(some p27), (.call (.fn 120) [q26]), (some (p23, true)), []⟩ tI, .G p23 true p28 (.mov q1) tI, .G p23 true p29 (.bin .geq q27 q28) .b, .P p30 (.pick q23 q29 (cb false)) .b, .jn p23 [p1, p2, p4, p5, p6, p30]] l99_4)
def v99_1 : List Pos := [p1, p2, p4, p5, p6]
def c99_1b : XC := (.sj v99_2 (.opq false (XL.pre [.fa p14 3 q2, .ld p15 q14 tI, .bn p16 .eql q15 (ci 0) .b, .mv p17 q16 .b, .sp p17, .o ⟨(some p18), (.l (.cells 5 q2)), (some (p17, true)), []⟩ .v, .o ⟨(some p19), (.call (.fn 28) [q18]), (some (p17, true)), []⟩ .v, .G p17 true p20 (.field 0 1 false q19) tI, .G p17 true p21 (.bin .eql q20 (ci 4)) .b, .P p22 (.pick q17 q21 (cb false)) .b, .jn p17 [p1, p2, p4, p5, p6, p22]] l99_3) c99_5) c99_2)
def c99_e : XC := (.sO [.al p2 (.box q0), .al p4 (.new [.nils, (kI 0), (kI 0), (kI 0), (kI 0)]), .al p5 (.new [(kI 0), (.str []), (.str []), (.int .u32 (.ofNat 0)), (.int .u64 (.ofNat 0)), .nils, (kI 0), (kI 0)])] (.sO [.L p10 (.cells 5 q2) .v, .cl p11 119 [q10] .v, .mv p9 q11 .v, .P p12 (.ext q9 0) .v, .P p13 (.ext q9 1) .v, .al p6 (.new [(kI 0), (.str []), (.str []), (.int .u32 (.ofNat 0)), (.int .u64 (.ofNat 0)), .nils, (kI 0), (kI 0)]), .ss 5 q2 q12, .ss 8 q6 q13] (.sj v99_0 (.block 0 (.loop v99_1 c99_1b)) c99_0)))
def x99 : XFn := ⟨[.v, tI], false, [(.cells 5 p4), (.cells 8 p5)], c99_e⟩
def e99_0 (k t2 t4 t5 t6 h) := kN k [(p2, t2), (p4, t4), (p5, t5), (p6, t6)] h
def S99_0 (D : CallD) (m : Nat) (t2 t4 t5 t6 : AV) (h : HP) : Res2 :=
 cellsC 5 t2 h fun t51 =>
 cellsC 8 t6 h fun t52 =>
 stsC 5 t4 t51 h fun h14 =>
 br (againE (.stores 5 q4 q51) [⟨none, .cells 8 q6, p52⟩] (mkT [(p4, t4), (p52, t52), (p6, t6)]) h14) (
 stsC 8 t5 t52 h14 fun h15 =>
 cellsC 5 t4 h15 fun t4a =>
 cellsC 8 t5 h15 fun t5a =>
 some (.ret (.tup [t4a, t5a]) h15, .no)) none
def e99_2 (k t1 t2 t4 t5 t6 h) := kN k [(p1, (vI t1)), (p2, t2), (p4, t4), (p5, t5), (p6, t6)] h
def S99_2 (D : CallD) (m : Nat) (g1 : Int → AV → AV → AV → AV → HP → Res2) (t1 : Int) (t2 t4 t5 t6 : AV) (h : HP) : Res2 :=
 cellsC 5 t2 h fun t31 =>
 cal D 28 [t31] h fun t32 h16 =>
 fldC 1 1 false t32 fun vt33 => asS vt33 fun t33 =>
 let t34 := (AV.agg [(vI (Int.ofNat 0)), (vS ([] : LN)), (vS ([] : LN)), (vW (Int.ofNat 0)), (AV.int .u64 (Int.ofNat 0)), (.nils : AV), (vI (Int.ofNat 0)), (vI (Int.ofNat 0))])
 let t8 := AV.ptr (HP.nxQ h16) 0
 let h17 := HP.newQ h16 (.cells true [(kI 0), (.str []), (.str []), (.int .u32 (.ofNat 0)), (.int .u64 (.ofNat 0)), .nils, (kI 0), (kI 0)])
 stsC 8 t8 t34 h17 fun h18 =>
 cellsC 5 t2 h18 fun t36 =>
 cal D 55 [t36] h18 fun t37 h19 =>
 cal D 120 [(vS t33)] h19 fun t39 h20 =>
 asI .i64 t39 fun t39a =>
 let t40 := wrQ .i64 (addQ t39a (Int.ofNat 1))
 cal D 99 [t37, (vI t40)] h20 fun t41 h21 =>
 extC t41 0 fun t42 =>
 extC t41 1 fun t43 =>
 stsC 5 t2 t42 h21 fun h22 =>
 stsC 8 t8 t43 h22 fun h23 =>
 cellsC 8 t6 h23 fun t45 =>
 cellsC 8 t8 h23 fun t46 =>
 obQ (evA (.bsl [(kI 0), (.str []), (.str []), (.int .u32 (.ofNat 0)), (.int .u64 (.ofNat 0)), .nils, (kI 0), (kI 0), (kI 0), (.str []), (.str []), (.int .u32 (.ofNat 0)), (.int .u64 (.ofNat 0)), .nils, (kI 0), (kI 0)] 2 [⟨0, 8, (.c t45)⟩, ⟨8, 8, (.c t46)⟩]) .leaf) fun r24 =>
 let t47 := vkV r24.2 (HP.nxQ h23)
 let h25 := HP.newQ h23 r24.1
 faC 7 t6 fun t48 =>
 ldI t48 h25 fun t49 =>
 obQ (evP (.build [(kI 0), (.str []), (.str []), (.int .u32 (.ofNat 0)), (.int .u64 (.ofNat 0)), .nils, (kI 0), (kI 0)] [⟨0, 1, (.c (vI (Int.ofNat 5)))⟩, ⟨1, 1, (.c (vS t33))⟩, ⟨5, 1, (.c t47)⟩, ⟨7, 1, (.c (vI t49))⟩]) .leaf) fun t50 =>
 stsC 8 t6 t50 h25 fun h26 =>
 g1 t1 t2 t4 t5 t6 h26
def e99_4 (k t1 t2 t4 t5 t6 t30 h) := kN k [(p1, (vI t1)), (p2, t2), (p4, t4), (p5, t5), (p6, t6), (p30, (vB t30))] h
def S99_4 (D : CallD) (m : Nat) (g1 : Int → AV → AV → AV → AV → HP → Res2) (t1 : Int) (t2 t4 t5 t6 : AV) (t30 : Bool) (h : HP) : Res2 :=
 br t30 (
 S99_2 D m g1 t1 t2 t4 t5 t6 h) (
 S99_0 D m t2 t4 t5 t6 h)
def e99_3 (k t1 t2 t4 t5 t6 t22 h) := kN k [(p1, (vI t1)), (p2, t2), (p4, t4), (p5, t5), (p6, t6), (p22, (vB t22))] h
def S99_3 (D : CallD) (m : Nat) (g1 : Int → AV → AV → AV → AV → HP → Res2) (t1 : Int) (t2 t4 t5 t6 : AV) (t22 : Bool) (h : HP) : Res2 :=
 br t22 (
 cellsC 5 t2 h fun t24 =>
 cal D 28 [t24] h fun t25 h28 =>
 fldC 1 1 false t25 fun vt26 => asS vt26 fun t26 =>
 cal D 120 [(vS t26)] h28 fun t27 h29 =>
 asI .i64 t27 fun t27a =>
 let t29 := leQ t1 t27a
 S99_4 D m g1 t1 t2 t4 t5 t6 t29 h29) (
 S99_4 D m g1 t1 t2 t4 t5 t6 false h)
def e99_1 (k t1 t2 t4 t5 t6 h) := kN k [(p1, (vI t1)), (p2, t2), (p4, t4), (p5, t5), (p6, t6)] h
def S99_1b (D : CallD) (m : Nat) (g1 : Int → AV → AV → AV → AV → HP → Res2) (t1 : Int) (t2 t4 t5 t6 : AV) (h : HP) : Res2 :=
 faC 3 t2 fun t14 =>
 ldI t14 h fun t15 =>
 let t16 := eqQ t15 (Int.ofNat 0)
 br t16 (
 cellsC 5 t2 h fun t18 =>
 cal D 28 [t18] h fun t19 h27 =>
 fldC 0 1 false t19 fun vt20 => asI .i64 vt20 fun t20 =>
 let t21 := eqQ t20 (Int.ofNat 4)
 S99_3 D m g1 t1 t2 t4 t5 t6 t21 h27) (
 S99_3 D m g1 t1 t2 t4 t5 t6 false h)
def S99_1 (D : CallD) (m : Nat) : Int → AV → AV → AV → AV → HP → Res2 := nrec (fun _ _ _ _ _ _ => none) (fun _ g => S99_1b D m g) m
def e99_6 (k t0 t1 h) := kN k [(p0, t0), (p1, (vI t1))] h
def S99_6 (D : CallD) (m : Nat) (t0 : AV) (t1 : Int) (h : HP) : Res2 :=
 let t2 := AV.ptr (HP.nxQ h) 0
 let h7 := HP.newQ h (.cells true (AV.cells t0))
 let t4 := AV.ptr (HP.nxQ h7) 0
 let h8 := HP.newQ h7 (.cells true [.nils, (kI 0), (kI 0), (kI 0), (kI 0)])
 let t5 := AV.ptr (HP.nxQ h8) 0
 let h9 := HP.newQ h8 (.cells true [(kI 0), (.str []), (.str []), (.int .u32 (.ofNat 0)), (.int .u64 (.ofNat 0)), .nils, (kI 0), (kI 0)])
 cellsC 5 t2 h9 fun t10 =>
 cal D 119 [t10] h9 fun t11 h10 =>
 extC t11 0 fun t12 =>
 extC t11 1 fun t13 =>
 let t6 := AV.ptr (HP.nxQ h10) 0
 let h11 := HP.newQ h10 (.cells true [(kI 0), (.str []), (.str []), (.int .u32 (.ofNat 0)), (.int .u64 (.ofNat 0)), .nils, (kI 0), (kI 0)])
 stsC 5 t2 t12 h11 fun h12 =>
 stsC 8 t6 t13 h12 fun h13 =>
 S99_1 D m t1 t2 t4 t5 t6 h13
def S99 : SFn := fun D m args h u => nou u <| popV args fun t0 args => popI .i64 args fun t1 args => endA args (S99_6 D m t0 t1 h)
theorem T99_0 (hE : FX x99 D m E) : S99_0 D m = e99_0 (E c99_0 []) := by unfold S99_0; rw [hE c99_0]; kernel_rfl
theorem T99_2 (hE : FX x99 D m E) (G1) : S99_2 D m (e99_1 G1) = e99_2 (E c99_2 [.lp v99_1 G1, .blk 0, .sj v99_0 c99_0]) := by unfold S99_2; rw [hE c99_2]; kernel_rfl
theorem T99_4 (hE : FX x99 D m E) (G1) : S99_4 D m (e99_1 G1) = e99_4 (E (.opq false l99_4 c99_5) [.sj v99_2 c99_2, .lp v99_1 G1, .blk 0, .sj v99_0 c99_0]) := by unfold S99_4; rw [T99_2 hE G1, T99_0 hE, hE (.opq false l99_4 c99_5)]; kernel_rfl
theorem T99_3 (hE : FX x99 D m E) (G1) : S99_3 D m (e99_1 G1) = e99_3 (E (.opq false l99_3 c99_5) [.sj v99_2 c99_2, .lp v99_1 G1, .blk 0, .sj v99_0 c99_0]) := by unfold S99_3; rw [T99_4 hE G1, hE (.opq false l99_3 c99_5)]; kernel_rfl
theorem T99_1b (hE : FX x99 D m E) (G1) : S99_1b D m (e99_1 G1) = e99_1 (E c99_1b [.lp v99_1 G1, .blk 0, .sj v99_0 c99_0]) := by unfold S99_1b; rw [T99_3 hE G1, hE c99_1b]; kernel_rfl
theorem T99_1 (hE : FX x99 D m E) : S99_1 D m = e99_1 (nrec (fun _ => none) (fun _ G1 st => E c99_1b [.lp v99_1 G1, .blk 0, .sj v99_0 c99_0] st) m) :=
  nrec_emb e99_1 (fun _ _ _ _ _ _ => none) (fun g => S99_1b D m g) (fun G1 st => E c99_1b [.lp v99_1 G1, .blk 0, .sj v99_0 c99_0] st) rfl (fun g => T99_1b hE g) m
theorem T99_6 (hE : FX x99 D m E) : S99_6 D m = e99_6 (E c99_e []) := by unfold S99_6; rw [T99_1 hE, hE c99_e]; kernel_rfl
theorem X99 : XTie S99 x99 := X_of fun D m E hE args h u => by unfold S99; rw [T99_6 hE]; kernel_rfl
/- 100 -/
def v100_0 : List Pos := [p1, p2]
def c100_0 : XC := (.sO [.fa p8 2 q1, .ld p9 q8 tI, .bn p10 .add q9 (ci 1) tI, .fa p11 2 q1, .st q11 q10] (.sO [.L p12 (.cells 5 q1) .v, .ss 5 q2 q12] (.s .ret)))
def c100_e : XC := (.sO [.al p1 (.box q0), .al p2 (.new [.nils, (kI 0), (kI 0), (kI 0), (kI 0)])] (.sj v100_0 (.sO [.fa p3 2 q1, .ld p4 q3 tI, .bn p5 .geq q4 (ci 40) .b] (.cond q5 (.s (.oX [.L p6 (.cells 5 q1) .v, .cl p7 96 [q6, (ci 12)] .v, .ss 5 q1 q7])) (.s .skip))) c100_0))
def x100 : XFn := ⟨[.v], false, [(.cells 5 p2)], c100_e⟩
def e100_0 (k t1 t2 h) := kN k [(p1, t1), (p2, t2)] h
def S100_0 (D : CallD) (m : Nat) (t1 t2 : AV) (h : HP) : Res2 :=
 faC 2 t1 fun t8 =>
 ldI t8 h fun t9 =>
 let t10 := wrQ .i64 (addQ t9 (Int.ofNat 1))
 faC 2 t1 fun t11 =>
 stoC t11 (vI t10) h fun h4 =>
 cellsC 5 t1 h4 fun t12 =>
 stsC 5 t2 t12 h4 fun h5 =>
 cellsC 5 t2 h5 fun t2a =>
 some (.ret t2a h5, .no)
def e100_1 (k t0 h) := kN k [(p0, t0)] h
def S100_1 (D : CallD) (m : Nat) (t0 : AV) (h : HP) : Res2 :=
 let t1 := AV.ptr (HP.nxQ h) 0
 let h2 := HP.newQ h (.cells true (AV.cells t0))
 let t2 := AV.ptr (HP.nxQ h2) 0
 let h3 := HP.newQ h2 (.cells true [.nils, (kI 0), (kI 0), (kI 0), (kI 0)])
 let t3 := (AV.ptr (HP.nxQ h) (Nat.add 0 2))
 ldI t3 h3 fun t4 =>
 let t5 := leQ (Int.ofNat 40) t4
 br t5 (
 cellsC 5 t1 h3 fun t6 =>
 cal D 96 [t6, (vI (Int.ofNat 12))] h3 fun t7 h6 =>
 stsC 5 t1 t7 h6 fun h7 =>
 S100_0 D m t1 t2 h7) (
 S100_0 D m t1 t2 h3)
def S100 : SFn := fun D m args h u => nou u <| popV args fun t0 args => endA args (S100_1 D m t0 h)
theorem T100_0 (hE : FX x100 D m E) : S100_0 D m = e100_0 (E c100_0 []) := by unfold S100_0; rw [hE c100_0]; kernel_rfl
theorem T100_1 (hE : FX x100 D m E) : S100_1 D m = e100_1 (E c100_e []) := by unfold S100_1; rw [T100_0 hE, hE c100_e]; kernel_rfl
theorem X100 : XTie S100 x100 := X_of fun D m E hE args h u => by unfold S100; rw [T100_1 hE]; kernel_rfl
/- 101 -/
def c101_e : XC := (.sO [.al p1 (.box q0), .al p2 (.new [.nils, (kI 0), (kI 0), (kI 0), (kI 0)])] (.sO [.fa p3 2 q1, .ld p4 q3 tI, .bn p5 .sub q4 (ci 1) tI, .fa p6 2 q1, .st q6 q5] (.sO [.L p7 (.cells 5 q1) .v, .ss 5 q2 q7] (.s .ret))))
def x101 : XFn := ⟨[.v], false, [(.cells 5 p2)], c101_e⟩
def e101_0 (k t0 h) := kN k [(p0, t0)] h
def S101_0 (D : CallD) (m : Nat) (t0 : AV) (h : HP) : Res2 :=
 let t1 := AV.ptr (HP.nxQ h) 0
 let h1 := HP.newQ h (.cells true (AV.cells t0))
 let t2 := AV.ptr (HP.nxQ h1) 0
 let h2 := HP.newQ h1 (.cells true [.nils, (kI 0), (kI 0), (kI 0), (kI 0)])
 let t3 := (AV.ptr (HP.nxQ h) (Nat.add 0 2))
 ldI t3 h2 fun t4 =>
 let t5 := wrQ .i64 (t4 - (Int.ofNat 1))
 let t6 := (AV.ptr (HP.nxQ h) (Nat.add 0 2))
 stoC t6 (vI t5) h2 fun h3 =>
 cellsC 5 t1 h3 fun t7 =>
 stsC 5 t2 t7 h3 fun h4 =>
 cellsC 5 t2 h4 fun t2a =>
 some (.ret t2a h4, .no)
def S101 : SFn := fun D m args h u => nou u <| popV args fun t0 args => endA args (S101_0 D m t0 h)
theorem T101_0 (hE : FX x101 D m E) : S101_0 D m = e101_0 (E c101_e []) := by unfold S101_0; rw [hE c101_e]; kernel_rfl
theorem X101 : XTie S101 x101 := X_of fun D m E hE args h u => by unfold S101; rw [T101_0 hE]; kernel_rfl
/- 103 -/
def v103_3 : List Pos := [p2, p3, p4, p5]
def c103_3 : XC := (.seq (.ops true (XL.of [.L p164 (.cells 7 q2) .v, .L p165 (.cells 8 q3) .v, .o ⟨none, (.e (.stores 7 q4 q164)), none, [⟨none, .cells 8 q3, p165⟩]⟩ .v, .ss 8 q5 q165])) (.s .ret))
def v103_2 : List Pos := [p2, p3, p4, p5]
def c103_2 : XC := (.sO [.mv p12 (ci 0) tI] (.sO [.L p152 (.cells 8 q3) .v, .cl p153 122 [q152] .v, .mv p151 q153 .v, .P p154 (.ext q151 0) .v, .P p155 (.ext q151 1) tI, .ss 8 q3 q154, .mv p12 q155 tI] (.sO [.mv p156 q12 tI, .fa p157 6 q3, .st q157 q156] (.sj v103_3 (.sO [.mv p158 q12 tI, .bn p159 .eql q158 (ci 0) .b] (.cond q159 (.s (.oX [.L p160 (.cells 7 q2) .v, .fa p161 7 q3, .ld p162 q161 tI, .cl p163 32 [q160, (ci 14), q162] .v, .ss 7 q2 q163])) (.s .skip))) c103_3))))
def v103_4 : List Pos := [p2, p3, p4, p5, p9]
def c103_4 : XC := (.sO [.fa p145 0 q9, .fa p146 4 q145, .ld p147 q146 tI, .fa p148 6 q3, .st q148 q147] (.seq (.ops true (XL.of [.L p149 (.cells 7 q2) .v, .L p150 (.cells 8 q3) .v, .o ⟨none, (.e (.stores 7 q4 q149)), none, [⟨none, .cells 8 q3, p150⟩]⟩ .v, .ss 8 q5 q150])) (.s .ret)))
def v103_6 : List Pos := [p2, p3, p4, p5, p9, p114, p115]
def c103_6 : XC := (.s (.oX [.bn p144 .add q115 (ci 1) tI, .mv p115 q144 tI]))
def v103_5 : List Pos := [p2, p3, p4, p5, p9, p114, p115]
def c103_5b : XC := (.sO [.bn p116 .lss q115 q114 .b] (.seq (.cond q116 .skip (.exit 2)) (.sj v103_6 (.block 3 (.sO [.mv p117 q115 tI, .mv p11 q117 tI] (.seq (.ops true (XL.of [.fa p119 5 q3, .ld p120 q119 .v, .mv p121 q11 tI, .fa p122 5 q3, .ld p123 q122 .v, .mv p124 q11 tI, .P p125 (.iaddr (.sl 8) q123 q124) .v, .L p126 (.cells 8 q125) .v, .fa p127 0 q9, .fa p128 8 q127, .ld p129 q128 .v, .mv p130 q11 tI, .P p131 (.iaddr (.sl 3) q129 q130) .v, .fa p132 1 q131, .ld p133 q132 tI, .o ⟨(some p134), (.call (.fn 104) [q126, q133]), none, [⟨none, .cell q119, p120⟩]⟩ .v, .mv p118 q134 .v, .P p135 (.ext q118 0) .v, .P p136 (.ext q118 1) .b, .P p137 (.iaddr (.sl 8) q120 q121) .v, .ss 8 q137 q135, .mv p10 q136 .b])) (.sO [.mv p138 q10 .b, .P p139 (.un .not q138) .b] (.cond q139 (.s (.oX [.L p140 (.cells 7 q2) .v, .fa p141 7 q3, .ld p142 q141 tI, .cl p143 32 [q140, (ci 14), q142] .v, .ss 7 q2 q143])) (.s .skip)))))) c103_6)))
def v103_1 : List Pos := [p2, p3, p4, p5, p9, p10]
def c103_1 : XC := (.sj v103_2 (.sO [.fa p83 0 q3, .ld p84 q83 tI, .bn p85 .eql q84 (ci 7) .b] (.cond q85 (.seq (.seq (.oX [.mv p86 q10 .b, .P p87 (.un .not q86) .b, .mv p88 q87 .b, .ge p88 (XL.of [.G p88 false p89 (.faddr 0 q9) .v, .G p88 false p90 (.faddr 0 q89) .v, .o ⟨(some p91), (.l (.cell q90)), (some (p88, false)), []⟩ .b, .G p88 false p92 (.un .not q91) .b, .P p93 (.pick q88 (cb true) q92) .b]) p93 .b]) (.cond q93 (.seq (.ops true (XL.of [.L p94 (.cells 7 q2) .v, .fa p95 7 q3, .ld p96 q95 tI, .L p98 (.cells 8 q3) .v, .o ⟨(some p97), (.call (.fn 32) [q94, (ci 13), q96]), none, [⟨none, .cells 8 q3, p98⟩]⟩ .v, .o ⟨none, (.e (.stores 7 q4 q97)), none, [⟨none, .cells 8 q3, p98⟩]⟩ .v, .ss 8 q5 q98])) .ret) .skip)) (.seq (.seq (.oX [.fa p99 5 q3, .ld p100 q99 .v, .P p101 (.lenl q100) tI, .fa p102 0 q9, .fa p103 8 q102, .ld p104 q103 .v, .P p105 (.lenl q104) tI, .bn p106 .neq q101 q105 .b]) (.cond q106 (.seq (.ops true (XL.of [.L p107 (.cells 7 q2) .v, .fa p108 7 q3, .ld p109 q108 tI, .L p111 (.cells 8 q3) .v, .o ⟨(some p110), (.call (.fn 32) [q107, (ci 14), q109]), none, [⟨none, .cells 8 q3, p111⟩]⟩ .v, .o ⟨none, (.e (.stores 7 q4 q110)), none, [⟨none, .cells 8 q3, p111⟩]⟩ .v, .ss 8 q5 q111])) .ret) .skip)) (.sj v103_4 (.sO [.fa p112 5 q3, .ld p113 q112 .v, .P p114 (.lenl q113) tI, .mv p115 (ci 0) tI] (.block 2 (.loop v103_5 c103_5b))) c103_4))) (.s .skip))) c103_2)
def v103_7 : List Pos := [p2, p3, p4, p5]
def c103_7 : XC := (.seq (.ops true (XL.of [.L p81 (.cells 7 q2) .v, .L p82 (.cells 8 q3) .v, .o ⟨none, (.e (.stores 7 q4 q81)), none, [⟨none, .cells 8 q3, p82⟩]⟩ .v, .ss 8 q5 q82])) (.s .ret))
def v103_0 : List Pos := [p2, p3, p4, p5, p6]
def c103_0 : XC := (.sO [.mv p35 q6 .v, .fa p36 5 q3, .st q36 q35] (.seq (.seq (.oX [.fa p37 5 q2, .ld p38 q37 tI, .bn p39 .neq q38 (ci 0) .b]) (.cond q39 (.seq (.ops true (XL.of [.L p40 (.cells 7 q2) .v, .L p41 (.cells 8 q3) .v, .o ⟨none, (.e (.stores 7 q4 q40)), none, [⟨none, .cells 8 q3, p41⟩]⟩ .v, .ss 8 q5 q41])) .ret) .skip)) (.sO [.L p43 (.cells 7 q2) .v, .fa p44 2 q3, .ld p45 q44 .s, .cl p46 68 [q43, q45] .v, .mv p42 q46 .v, .P p47 (.ext q42 0) .v, .P p48 (.ext q42 1) .b, .al p9 (.new [(.bool false), (.bool false), (.bool false), (.str []), (kI 0), (kI 0), .nils, (.bool false), .nils, (kI 0), .nils, .nils, (.str []), (kI 0), (kI 0), (kI 0), (kI 0), (.str []), (kI 0)]), .ss 19 q9 q47, .mv p10 q48 .b] (.sj v103_1 (.sO [.fa p49 0 q3, .ld p50 q49 tI, .bn p51 .eql q50 (ci 3) .b] (.cond q51 (.seq (.seq (.oX [.mv p52 q10 .b, .P p53 (.un .not q52) .b, .mv p54 q53 .b, .ge p54 (XL.of [.G p54 false p55 (.faddr 0 q9) .v, .G p54 false p56 (.faddr 0 q55) .v, .o ⟨(some p57), (.l (.cell q56)), (some (p54, false)), []⟩ .b, .P p58 (.pick q54 (cb true) q57) .b]) p58 .b]) (.cond q58 (.seq (.ops true (XL.of [.L p59 (.cells 7 q2) .v, .fa p60 7 q3, .ld p61 q60 tI, .L p63 (.cells 8 q3) .v, .o ⟨(some p62), (.call (.fn 32) [q59, (ci 13), q61]), none, [⟨none, .cells 8 q3, p63⟩]⟩ .v, .o ⟨none, (.e (.stores 7 q4 q62)), none, [⟨none, .cells 8 q3, p63⟩]⟩ .v, .ss 8 q5 q63])) .ret) .skip)) (.sO [.fa p64 17 q9, .ld p65 q64 .s, .fa p66 2 q3, .st q66 q65] (.sO [.fa p67 0 q9, .fa p68 4 q67, .ld p69 q68 tI, .fa p70 6 q3, .st q70 q69] (.sj v103_7 (.sO [.fa p71 0 q9, .fa p72 5 q71, .ld p73 q72 tI, .bn p74 .gtr q73 (ci 0) .b] (.cond q74 (.sO [.fa p75 0 q9, .fa p76 4 q75, .ld p77 q76 tI, .cl p78 121 [q77] tI, .fa p79 6 q3, .st q79 q78] (.s (.oX [.fa p80 3 q3, .st q80 (.c (.int .u32 (.ofNat 1)))]))) (.s .skip))) c103_7)))) (.s .skip))) c103_1))))
def v103_8 : List Pos := [p2, p3, p4, p5, p6, p15, p16]
def c103_8b : XC := (.sO [.bn p17 .lss q16 q15 .b] (.seq (.cond q17 .skip (.exit 0)) (.seq (.block 1 (.seq (.oX [.mv p18 q16 tI, .mv p7 q18 tI]) (.seq (.oX [.P p19 (.build [(kI 0), (.str []), (.str []), (.int .u32 (.ofNat 0)), (.int .u64 (.ofNat 0)), .nils, (kI 0), (kI 0)] []) .v, .al p8 (.new [(kI 0), (.str []), (.str []), (.int .u32 (.ofNat 0)), (.int .u64 (.ofNat 0)), .nils, (kI 0), (kI 0)]), .ss 8 q8 q19]) (.seq (.ops true (XL.of [.L p21 (.cells 7 q2) .v, .fa p22 5 q3, .ld p23 q22 .v, .mv p24 q7 tI, .P p25 (.iaddr (.sl 8) q23 q24) .v, .L p26 (.cells 8 q25) .v, .cl p27 103 [q21, q26] .v, .mv p20 q27 .v, .P p28 (.ext q20 0) .v, .P p29 (.ext q20 1) .v, .ss 7 q2 q28, .ss 8 q8 q29])) (.oX [.mv p30 q6 .v, .L p31 (.cells 8 q8) .v, .al p32 (.bsl [(kI 0), (.str []), (.str []), (.int .u32 (.ofNat 0)), (.int .u64 (.ofNat 0)), .nils, (kI 0), (kI 0)] 1 [⟨0, 8, q31⟩]), .o ⟨(some p33), (.e (.app 8 96 q30 q32)), none, []⟩ .v, .mv p6 q33 .v]))))) (.s (.oX [.bn p34 .add q16 (ci 1) tI, .mv p16 q34 tI])))))
def c103_e : XC := (.sO [.al p2 (.box q0), .al p3 (.box q1), .al p4 (.new [.nils, (kI 0), (kI 0), (kI 0), (kI 0), (kI 0), (kI 0)]), .al p5 (.new [(kI 0), (.str []), (.str []), (.int .u32 (.ofNat 0)), (.int .u64 (.ofNat 0)), .nils, (kI 0), (kI 0)])] (.sO [.mv p6 (.c .nils) .v] (.sj v103_0 (.sO [.fa p13 5 q3, .ld p14 q13 .v, .P p15 (.lenl q14) tI, .mv p16 (ci 0) tI] (.block 0 (.loop v103_8 c103_8b))) c103_0)))
def x103 : XFn := ⟨[.v, .v], false, [(.cells 7 p4), (.cells 8 p5)], c103_e⟩
def e103_3 (k t2 t3 t4 t5 h) := kN k [(p2, t2), (p3, t3), (p4, t4), (p5, t5)] h
def S103_3 (D : CallD) (m : Nat) (t2 t3 t4 t5 : AV) (h : HP) : Res2 :=
 cellsC 7 t2 h fun t164 =>
 cellsC 8 t3 h fun t165 =>
 stsC 7 t4 t164 h fun h23 =>
 br (againE (.stores 7 q4 q164) [⟨none, .cells 8 q3, p165⟩] (mkT [(p4, t4), (p165, t165), (p3, t3)]) h23) (
 stsC 8 t5 t165 h23 fun h24 =>
 cellsC 7 t4 h24 fun t4a =>
 cellsC 8 t5 h24 fun t5a =>
 some (.ret (.tup [t4a, t5a]) h24, .no)) none
def e103_2 (k t2 t3 t4 t5 h) := kN k [(p2, t2), (p3, t3), (p4, t4), (p5, t5)] h
def S103_2 (D : CallD) (m : Nat) (t2 t3 t4 t5 : AV) (h : HP) : Res2 :=
 cellsC 8 t3 h fun t152 =>
 cal D 122 [t152] h fun t153 h20 =>
 extC t153 0 fun t154 =>
 extC t153 1 fun vt155 => asI .i64 vt155 fun t155 =>
 stsC 8 t3 t154 h20 fun h21 =>
 faC 6 t3 fun t157 =>
 stoC t157 (vI t155) h21 fun h22 =>
 let t159 := eqQ t155 (Int.ofNat 0)
 br t159 (
 cellsC 7 t2 h22 fun t160 =>
 faC 7 t3 fun t161 =>
 ldI t161 h22 fun t162 =>
 cal D 32 [t160, (vI (Int.ofNat 14)), (vI t162)] h22 fun t163 h25 =>
 stsC 7 t2 t163 h25 fun h26 =>
 S103_3 D m t2 t3 t4 t5 h26) (
 S103_3 D m t2 t3 t4 t5 h22)
def e103_4 (k t2 t3 t4 t5 t9 h) := kN k [(p2, t2), (p3, t3), (p4, t4), (p5, t5), (p9, t9)] h
def S103_4 (D : CallD) (m : Nat) (t2 t3 t4 t5 t9 : AV) (h : HP) : Res2 :=
 faC 0 t9 fun t145 =>
 faC 4 t145 fun t146 =>
 ldI t146 h fun t147 =>
 faC 6 t3 fun t148 =>
 stoC t148 (vI t147) h fun h33 =>
 cellsC 7 t2 h33 fun t149 =>
 cellsC 8 t3 h33 fun t150 =>
 stsC 7 t4 t149 h33 fun h34 =>
 br (againE (.stores 7 q4 q149) [⟨none, .cells 8 q3, p150⟩] (mkT [(p4, t4), (p150, t150), (p3, t3)]) h34) (
 stsC 8 t5 t150 h34 fun h35 =>
 cellsC 7 t4 h35 fun t4a =>
 cellsC 8 t5 h35 fun t5a =>
 some (.ret (.tup [t4a, t5a]) h35, .no)) none
def e103_6 (k t2 t3 t4 t5 t9 t114 t115 h) := kN k [(p2, t2), (p3, t3), (p4, t4), (p5, t5), (p9, t9), (p114, (vI t114)), (p115, (vI t115))] h
def S103_6 (D : CallD) (m : Nat) (g5 : AV → AV → AV → AV → AV → Int → Int → HP → Res2) (t2 t3 t4 t5 t9 : AV) (t114 t115 : Int) (h : HP) : Res2 :=
 let t144 := wrQ .i64 (addQ t115 (Int.ofNat 1))
 g5 t2 t3 t4 t5 t9 t114 t144 h
def e103_5 (k t2 t3 t4 t5 t9 t114 t115 h) := kN k [(p2, t2), (p3, t3), (p4, t4), (p5, t5), (p9, t9), (p114, (vI t114)), (p115, (vI t115))] h
def S103_5b (D : CallD) (m : Nat) (g5 : AV → AV → AV → AV → AV → Int → Int → HP → Res2) (t2 t3 t4 t5 t9 : AV) (t114 t115 : Int) (h : HP) : Res2 :=
 let t116 := ltQ t115 t114
 br t116 (
 faC 5 t3 fun t119 =>
 cellC t119 h fun t120 =>
 faC 5 t3 fun t122 =>
 cellC t122 h fun t123 =>
 iasC 8 t123 (vI t115) fun t125 =>
 cellsC 8 t125 h fun t126 =>
 faC 0 t9 fun t127 =>
 faC 8 t127 fun t128 =>
 cellC t128 h fun t129 =>
 iasC 3 t129 (vI t115) fun t131 =>
 faC 1 t131 fun t132 =>
 ldI t132 h fun t133 =>
 cal D 104 [t126, (vI t133)] h fun t134 h36 =>
 br (again [⟨none, .cell q119, p120⟩] (mkT [(p120, t120), (p119, t119)]) h36) (
 extC t134 0 fun t135 =>
 extC t134 1 fun vt136 => asB vt136 fun t136 =>
 iasC 8 t120 (vI t115) fun t137 =>
 stsC 8 t137 t135 h36 fun h37 =>
 let t139 := !t136
 br t139 (
 cellsC 7 t2 h37 fun t140 =>
 faC 7 t3 fun t141 =>
 ldI t141 h37 fun t142 =>
 cal D 32 [t140, (vI (Int.ofNat 14)), (vI t142)] h37 fun t143 h38 =>
 stsC 7 t2 t143 h38 fun h39 =>
 S103_6 D m g5 t2 t3 t4 t5 t9 t114 t115 h39) (
 S103_6 D m g5 t2 t3 t4 t5 t9 t114 t115 h37)) none) (
 S103_4 D m t2 t3 t4 t5 t9 h)
def S103_5 (D : CallD) (m : Nat) : AV → AV → AV → AV → AV → Int → Int → HP → Res2 := nrec (fun _ _ _ _ _ _ _ _ => none) (fun _ g => S103_5b D m g) m
def e103_1 (k t2 t3 t4 t5 t9 t10 h) := kN k [(p2, t2), (p3, t3), (p4, t4), (p5, t5), (p9, t9), (p10, (vB t10))] h
def S103_1 (D : CallD) (m : Nat) (t2 t3 t4 t5 t9 : AV) (t10 : Bool) (h : HP) : Res2 :=
 faC 0 t3 fun t83 =>
 ldI t83 h fun t84 =>
 let t85 := eqQ t84 (Int.ofNat 7)
 br t85 (
 let t87 := !t10
 obB (brV t87 (
 some (vB true)) (
 faCV 0 t9 fun t89 =>
 faCV 0 t89 fun t90 =>
 ldBV t90 h fun t91 =>
 let t92 := !t91
 some (vB t92))) fun t93 =>
 br t93 (
 cellsC 7 t2 h fun t94 =>
 faC 7 t3 fun t95 =>
 ldI t95 h fun t96 =>
 cellsC 8 t3 h fun t98 =>
 cal D 32 [t94, (vI (Int.ofNat 13)), (vI t96)] h fun t97 h27 =>
 br (again [⟨none, .cells 8 q3, p98⟩] (mkT [(p98, t98), (p3, t3)]) h27) (
 stsC 7 t4 t97 h27 fun h28 =>
 br (againE (.stores 7 q4 q97) [⟨none, .cells 8 q3, p98⟩] (mkT [(p4, t4), (p98, t98), (p3, t3)]) h28) (
 stsC 8 t5 t98 h28 fun h29 =>
 cellsC 7 t4 h29 fun t4a =>
 cellsC 8 t5 h29 fun t5a =>
 some (.ret (.tup [t4a, t5a]) h29, .no)) none) none) (
 faC 5 t3 fun t99 =>
 cellC t99 h fun t100 =>
 lenC t100 fun vt101 => asI .i64 vt101 fun t101 =>
 faC 0 t9 fun t102 =>
 faC 8 t102 fun t103 =>
 cellC t103 h fun t104 =>
 lenC t104 fun vt105 => asI .i64 vt105 fun t105 =>
 let t106 := notQ (eqQ t101 t105)
 br t106 (
 cellsC 7 t2 h fun t107 =>
 faC 7 t3 fun t108 =>
 ldI t108 h fun t109 =>
 cellsC 8 t3 h fun t111 =>
 cal D 32 [t107, (vI (Int.ofNat 14)), (vI t109)] h fun t110 h30 =>
 br (again [⟨none, .cells 8 q3, p111⟩] (mkT [(p111, t111), (p3, t3)]) h30) (
 stsC 7 t4 t110 h30 fun h31 =>
 br (againE (.stores 7 q4 q110) [⟨none, .cells 8 q3, p111⟩] (mkT [(p4, t4), (p111, t111), (p3, t3)]) h31) (
 stsC 8 t5 t111 h31 fun h32 =>
 cellsC 7 t4 h32 fun t4a =>
 cellsC 8 t5 h32 fun t5a =>
 some (.ret (.tup [t4a, t5a]) h32, .no)) none) none) (
 faC 5 t3 fun t112 =>
 cellC t112 h fun t113 =>
 lenC t113 fun vt114 => asI .i64 vt114 fun t114 =>
 S103_5 D m t2 t3 t4 t5 t9 t114 (Int.ofNat 0) h))) (
 S103_2 D m t2 t3 t4 t5 h)
def e103_7 (k t2 t3 t4 t5 h) := kN k [(p2, t2), (p3, t3), (p4, t4), (p5, t5)] h
def S103_7 (D : CallD) (m : Nat) (t2 t3 t4 t5 : AV) (h : HP) : Res2 :=
 cellsC 7 t2 h fun t81 =>
 cellsC 8 t3 h fun t82 =>
 stsC 7 t4 t81 h fun h45 =>
 br (againE (.stores 7 q4 q81) [⟨none, .cells 8 q3, p82⟩] (mkT [(p4, t4), (p82, t82), (p3, t3)]) h45) (
 stsC 8 t5 t82 h45 fun h46 =>
 cellsC 7 t4 h46 fun t4a =>
 cellsC 8 t5 h46 fun t5a =>
 some (.ret (.tup [t4a, t5a]) h46, .no)) none
def e103_0 (k t2 t3 t4 t5 t6 h) := kN k [(p2, t2), (p3, t3), (p4, t4), (p5, t5), (p6, t6)] h
def S103_0 (D : CallD) (m : Nat) (t2 t3 t4 t5 t6 : AV) (h : HP) : Res2 :=
 faC 5 t3 fun t36 =>
 stoC t36 t6 h fun h14 =>
 faC 5 t2 fun t37 =>
 ldI t37 h14 fun t38 =>
 let t39 := notQ (eqQ t38 (Int.ofNat 0))
 br t39 (
 cellsC 7 t2 h14 fun t40 =>
 cellsC 8 t3 h14 fun t41 =>
 stsC 7 t4 t40 h14 fun h15 =>
 br (againE (.stores 7 q4 q40) [⟨none, .cells 8 q3, p41⟩] (mkT [(p4, t4), (p41, t41), (p3, t3)]) h15) (
 stsC 8 t5 t41 h15 fun h16 =>
 cellsC 7 t4 h16 fun t4a =>
 cellsC 8 t5 h16 fun t5a =>
 some (.ret (.tup [t4a, t5a]) h16, .no)) none) (
 cellsC 7 t2 h14 fun t43 =>
 faC 2 t3 fun t44 =>
 ldS t44 h14 fun t45 =>
 cal D 68 [t43, (vS t45)] h14 fun t46 h17 =>
 extC t46 0 fun t47 =>
 extC t46 1 fun vt48 => asB vt48 fun t48 =>
 let t9 := AV.ptr (HP.nxQ h17) 0
 let h18 := HP.newQ h17 (.cells true [(.bool false), (.bool false), (.bool false), (.str []), (kI 0), (kI 0), .nils, (.bool false), .nils, (kI 0), .nils, .nils, (.str []), (kI 0), (kI 0), (kI 0), (kI 0), (.str []), (kI 0)])
 stsC 19 t9 t47 h18 fun h19 =>
 faC 0 t3 fun t49 =>
 ldI t49 h19 fun t50 =>
 let t51 := eqQ t50 (Int.ofNat 3)
 br t51 (
 let t53 := !t48
 obB (brV t53 (
 some (vB true)) (
 let t55 := (AV.ptr (HP.nxQ h17) (Nat.add 0 0))
 let t56 := (AV.ptr (HP.nxQ h17) (Nat.add (Nat.add 0 0) 0))
 ldBV t56 h19 fun t57 =>
 some (vB t57))) fun t58 =>
 br t58 (
 cellsC 7 t2 h19 fun t59 =>
 faC 7 t3 fun t60 =>
 ldI t60 h19 fun t61 =>
 cellsC 8 t3 h19 fun t63 =>
 cal D 32 [t59, (vI (Int.ofNat 13)), (vI t61)] h19 fun t62 h40 =>
 br (again [⟨none, .cells 8 q3, p63⟩] (mkT [(p63, t63), (p3, t3)]) h40) (
 stsC 7 t4 t62 h40 fun h41 =>
 br (againE (.stores 7 q4 q62) [⟨none, .cells 8 q3, p63⟩] (mkT [(p4, t4), (p63, t63), (p3, t3)]) h41) (
 stsC 8 t5 t63 h41 fun h42 =>
 cellsC 7 t4 h42 fun t4a =>
 cellsC 8 t5 h42 fun t5a =>
 some (.ret (.tup [t4a, t5a]) h42, .no)) none) none) (
 let t64 := (AV.ptr (HP.nxQ h17) (Nat.add 0 17))
 ldS t64 h19 fun t65 =>
 faC 2 t3 fun t66 =>
 stoC t66 (vS t65) h19 fun h43 =>
 let t67 := (AV.ptr (HP.nxQ h17) (Nat.add 0 0))
 let t68 := (AV.ptr (HP.nxQ h17) (Nat.add (Nat.add 0 0) 4))
 ldI t68 h43 fun t69 =>
 faC 6 t3 fun t70 =>
 stoC t70 (vI t69) h43 fun h44 =>
 let t71 := (AV.ptr (HP.nxQ h17) (Nat.add 0 0))
 let t72 := (AV.ptr (HP.nxQ h17) (Nat.add (Nat.add 0 0) 5))
 ldI t72 h44 fun t73 =>
 let t74 := ltQ (Int.ofNat 0) t73
 br t74 (
 let t75 := (AV.ptr (HP.nxQ h17) (Nat.add 0 0))
 let t76 := (AV.ptr (HP.nxQ h17) (Nat.add (Nat.add 0 0) 4))
 ldI t76 h44 fun t77 =>
 cal D 121 [(vI t77)] h44 fun t78 h47 =>
 asI .i64 t78 fun t78a =>
 faC 6 t3 fun t79 =>
 stoC t79 (vI t78a) h47 fun h48 =>
 faC 3 t3 fun t80 =>
 stoC t80 (vW (Int.ofNat 1)) h48 fun h49 =>
 S103_7 D m t2 t3 t4 t5 h49) (
 S103_7 D m t2 t3 t4 t5 h44))) (
 S103_1 D m t2 t3 t4 t5 t9 t48 h19))
def e103_8 (k t2 t3 t4 t5 t6 t15 t16 h) := kN k [(p2, t2), (p3, t3), (p4, t4), (p5, t5), (p6, t6), (p15, (vI t15)), (p16, (vI t16))] h
def S103_8b (D : CallD) (m : Nat) (g8 : AV → AV → AV → AV → AV → Int → Int → HP → Res2) (t2 t3 t4 t5 t6 : AV) (t15 t16 : Int) (h : HP) : Res2 :=
 let t17 := ltQ t16 t15
 br t17 (
 let t19 := (AV.agg [(vI (Int.ofNat 0)), (vS ([] : LN)), (vS ([] : LN)), (vW (Int.ofNat 0)), (AV.int .u64 (Int.ofNat 0)), (.nils : AV), (vI (Int.ofNat 0)), (vI (Int.ofNat 0))])
 let t8 := AV.ptr (HP.nxQ h) 0
 let h50 := HP.newQ h (.cells true [(kI 0), (.str []), (.str []), (.int .u32 (.ofNat 0)), (.int .u64 (.ofNat 0)), .nils, (kI 0), (kI 0)])
 stsC 8 t8 t19 h50 fun h51 =>
 cellsC 7 t2 h51 fun t21 =>
 faC 5 t3 fun t22 =>
 cellC t22 h51 fun t23 =>
 iasC 8 t23 (vI t16) fun t25 =>
 cellsC 8 t25 h51 fun t26 =>
 cal D 103 [t21, t26] h51 fun t27 h52 =>
 extC t27 0 fun t28 =>
 extC t27 1 fun t29 =>
 stsC 7 t2 t28 h52 fun h53 =>
 stsC 8 t8 t29 h53 fun h54 =>
 cellsC 8 t8 h54 fun t31 =>
 obQ (evA (.bsl [(kI 0), (.str []), (.str []), (.int .u32 (.ofNat 0)), (.int .u64 (.ofNat 0)), .nils, (kI 0), (kI 0)] 1 [⟨0, 8, (.c t31)⟩]) .leaf) fun r55 =>
 let t32 := vkV r55.2 (HP.nxQ h54)
 let h56 := HP.newQ h54 r55.1
 eff (.app 8 96 (.c t6) (.c t32)) h56 fun t33 h57 =>
 let t34 := wrQ .i64 (addQ t16 (Int.ofNat 1))
 g8 t2 t3 t4 t5 t33 t15 t34 h57) (
 S103_0 D m t2 t3 t4 t5 t6 h)
def S103_8 (D : CallD) (m : Nat) : AV → AV → AV → AV → AV → Int → Int → HP → Res2 := nrec (fun _ _ _ _ _ _ _ _ => none) (fun _ g => S103_8b D m g) m
def e103_9 (k t0 t1 h) := kN k [(p0, t0), (p1, t1)] h
def S103_9 (D : CallD) (m : Nat) (t0 t1 : AV) (h : HP) : Res2 :=
 let t2 := AV.ptr (HP.nxQ h) 0
 let h10 := HP.newQ h (.cells true (AV.cells t0))
 let t3 := AV.ptr (HP.nxQ h10) 0
 let h11 := HP.newQ h10 (.cells true (AV.cells t1))
 let t4 := AV.ptr (HP.nxQ h11) 0
 let h12 := HP.newQ h11 (.cells true [.nils, (kI 0), (kI 0), (kI 0), (kI 0), (kI 0), (kI 0)])
 let t5 := AV.ptr (HP.nxQ h12) 0
 let h13 := HP.newQ h12 (.cells true [(kI 0), (.str []), (.str []), (.int .u32 (.ofNat 0)), (.int .u64 (.ofNat 0)), .nils, (kI 0), (kI 0)])
 let t13 := (AV.ptr (HP.nxQ h10) (Nat.add 0 5))
 cellC t13 h13 fun t14 =>
 lenC t14 fun vt15 => asI .i64 vt15 fun t15 =>
 S103_8 D m t2 t3 t4 t5 (.nils : AV) t15 (Int.ofNat 0) h13
def S103 : SFn := fun D m args h u => nou u <| popV args fun t0 args => popV args fun t1 args => endA args (S103_9 D m t0 t1 h)
theorem T103_3 (hE : FX x103 D m E) : S103_3 D m = e103_3 (E c103_3 []) := by unfold S103_3; rw [hE c103_3]; kernel_rfl
theorem T103_2 (hE : FX x103 D m E) : S103_2 D m = e103_2 (E c103_2 []) := by unfold S103_2; rw [T103_3 hE, hE c103_2]; kernel_rfl
theorem T103_4 (hE : FX x103 D m E) : S103_4 D m = e103_4 (E c103_4 [.sj v103_2 c103_2]) := by unfold S103_4; rw [hE c103_4]; kernel_rfl
theorem T103_6 (hE : FX x103 D m E) (G5) : S103_6 D m (e103_5 G5) = e103_6 (E c103_6 [.lp v103_5 G5, .blk 2, .sj v103_4 c103_4, .sj v103_2 c103_2]) := by unfold S103_6; rw [hE c103_6]; kernel_rfl
theorem T103_5b (hE : FX x103 D m E) (G5) : S103_5b D m (e103_5 G5) = e103_5 (E c103_5b [.lp v103_5 G5, .blk 2, .sj v103_4 c103_4, .sj v103_2 c103_2]) := by unfold S103_5b; rw [T103_6 hE G5, T103_4 hE, hE c103_5b]; kernel_rfl
theorem T103_5 (hE : FX x103 D m E) : S103_5 D m = e103_5 (nrec (fun _ => none) (fun _ G5 st => E c103_5b [.lp v103_5 G5, .blk 2, .sj v103_4 c103_4, .sj v103_2 c103_2] st) m) :=
  nrec_emb e103_5 (fun _ _ _ _ _ _ _ _ => none) (fun g => S103_5b D m g) (fun G5 st => E c103_5b [.lp v103_5 G5, .blk 2, .sj v103_4 c103_4, .sj v103_2 c103_2] st) rfl (fun g => T103_5b hE g) m
theorem T103_1 (hE : FX x103 D m E) : S103_1 D m = e103_1 (E c103_1 []) := by unfold S103_1; rw [T103_5 hE, T103_2 hE, hE c103_1]; kernel_rfl
theorem T103_7 (hE : FX x103 D m E) : S103_7 D m = e103_7 (E c103_7 [.sj v103_1 c103_1]) := by unfold S103_7; rw [hE c103_7]; kernel_rfl
theorem T103_0 (hE : FX x103 D m E) : S103_0 D m = e103_0 (E c103_0 []) := by unfold S103_0; rw [T103_7 hE, T103_1 hE, hE c103_0]; kernel_rfl
theorem T103_8b (hE : FX x103 D m E) (G8) : S103_8b D m (e103_8 G8) = e103_8 (E c103_8b [.lp v103_8 G8, .blk 0, .sj v103_0 c103_0]) := by unfold S103_8b; rw [T103_0 hE, hE c103_8b]; kernel_rfl
theorem T103_8 (hE : FX x103 D m E) : S103_8 D m = e103_8 (nrec (fun _ => none) (fun _ G8 st => E c103_8b [.lp v103_8 G8, .blk 0, .sj v103_0 c103_0] st) m) :=
  nrec_emb e103_8 (fun _ _ _ _ _ _ _ _ => none) (fun g => S103_8b D m g) (fun G8 st => E c103_8b [.lp v103_8 G8, .blk 0, .sj v103_0 c103_0] st) rfl (fun g => T103_8b hE g) m
theorem T103_9 (hE : FX x103 D m E) : S103_9 D m = e103_9 (E c103_e []) := by unfold S103_9; rw [T103_8 hE, hE c103_e]; kernel_rfl
theorem X103 : XTie S103 x103 := X_of fun D m E hE args h u => by unfold S103; rw [T103_9 hE]; kernel_rfl
/- 104 -/
def c104_2 : XC := (.s .ret)
def l104_1 : XL := (XL.of [.o ⟨none, (.e (.stores 8 q4 q21)), none, [⟨(some (p24, true)), .cell q25, p26⟩]⟩ .v, .mv p5 q29 .b])
def v104_0 : List Pos := [p1, p2, p4]
def c104_0 : XC := (.opq true (XL.pre [.L p21 (.cells 8 q2) .v, .mv p22 q1 tI, .bn p23 .neq q22 (ci 0) .b, .mv p24 q23 .b, .sp p24, .G p24 true p25 (.faddr 6 q2) .v, .o ⟨(some p26), (.l (.cell q25)), (some (p24, true)), []⟩ tI, .G p24 true p27 (.mov q1) tI, .G p24 true p28 (.bin .eql q26 q27) .b, .P p29 (.pick q24 q28 (cb false)) .b, .jn p24 [p4, p21, p24, p25, p26, p29]] l104_1) c104_2)
def c104_e : XC := (.sO [.al p2 (.box q0), .al p4 (.new [(kI 0), (.str []), (.str []), (.int .u32 (.ofNat 0)), (.int .u64 (.ofNat 0)), .nils, (kI 0), (kI 0)]), .mv p5 (cb false) .b] (.sj v104_0 (.sO [.mv p6 q1 tI, .cl p7 123 [q6] tI, .bn p8 .neq q7 (ci 0) .b, .mv p9 q8 .b, .ge p9 (XL.of [.G p9 true p10 (.faddr 0 q2) .v, .o ⟨(some p11), (.l (.cell q10)), (some (p9, true)), []⟩ tI, .G p9 true p12 (.bin .eql q11 (ci 1)) .b, .P p13 (.pick q9 q12 (cb false)) .b]) p13 .b, .mv p14 q13 .b, .ge p14 (XL.of [.G p14 true p15 (.faddr 3 q2) .v, .o ⟨(some p16), (.l (.cell q15)), (some (p14, true)), []⟩ tW, .G p14 true p17 (.bin .eql q16 (.c (.int .u32 (.ofNat 0)))) .b, .P p18 (.pick q14 q17 (cb false)) .b]) p18 .b] (.cond q18 (.s (.oX [.mv p19 q1 tI, .fa p20 6 q2, .st q20 q19])) (.s .skip))) c104_0))
def x104 : XFn := ⟨[.v, tI], false, [(.cells 8 p4), (.tmp p5)], c104_e⟩
def e104_1 (k t4 t21 t24 t25 t26 t29 h) := kN k [(p4, t4), (p21, t21), (p24, (vB t24)), (p25, t25), (p26, t26), (p29, (vB t29))] h
def S104_1 (D : CallD) (m : Nat) (t4 t21 : AV) (t24 : Bool) (t25 t26 : AV) (t29 : Bool) (h : HP) : Res2 :=
 stsC 8 t4 t21 h fun h6 =>
 br (againE (.stores 8 q4 q21) [⟨(some (p24, true)), .cell q25, p26⟩] (mkT [(p4, t4), (p26, t26), (p24, (vB t24)), (p25, t25)]) h6) (
 cellsC 8 t4 h6 fun t4a =>
 some (.ret (.tup [t4a, (vB t29)]) h6, .no)) none
def e104_0 (k t1 t2 t4 h) := kN k [(p1, (vI t1)), (p2, t2), (p4, t4)] h
def S104_0 (D : CallD) (m : Nat) (t1 : Int) (t2 t4 : AV) (h : HP) : Res2 :=
 cellsC 8 t2 h fun t21 =>
 let t23 := notQ (eqQ t1 (Int.ofNat 0))
 br t23 (
 faC 6 t2 fun t25 =>
 ldI t25 h fun t26 =>
 let t28 := eqQ t26 t1
 S104_1 D m t4 t21 true t25 (vI t26) t28 h) (
 S104_1 D m t4 t21 false (.tup [] : AV) (.tup [] : AV) false h)
def e104_3 (k t0 t1 h) := kN k [(p0, t0), (p1, (vI t1))] h
def S104_3 (D : CallD) (m : Nat) (t0 : AV) (t1 : Int) (h : HP) : Res2 :=
 let t2 := AV.ptr (HP.nxQ h) 0
 let h4 := HP.newQ h (.cells true (AV.cells t0))
 let t4 := AV.ptr (HP.nxQ h4) 0
 let h5 := HP.newQ h4 (.cells true [(kI 0), (.str []), (.str []), (.int .u32 (.ofNat 0)), (.int .u64 (.ofNat 0)), .nils, (kI 0), (kI 0)])
 cal D 123 [(vI t1)] h5 fun t7 h7 =>
 asI .i64 t7 fun t7a =>
 let t8 := notQ (eqQ t7a (Int.ofNat 0))
 obB (brV t8 (
 let t10 := (AV.ptr (HP.nxQ h) (Nat.add 0 0))
 ldIV t10 h7 fun t11 =>
 let t12 := eqQ t11 (Int.ofNat 1)
 some (vB t12)) (
 some (vB false))) fun t13 =>
 obB (brV t13 (
 let t15 := (AV.ptr (HP.nxQ h) (Nat.add 0 3))
 ldWV t15 h7 fun t16 =>
 binCV .eql (vW t16) (vW (Int.ofNat 0)) fun vt17 => asBV vt17 fun t17 =>
 some (vB t17)) (
 some (vB false))) fun t18 =>
 br t18 (
 let t20 := (AV.ptr (HP.nxQ h) (Nat.add 0 6))
 stoC t20 (vI t1) h7 fun h8 =>
 S104_0 D m t1 t2 t4 h8) (
 S104_0 D m t1 t2 t4 h7)
def S104 : SFn := fun D m args h u => nou u <| popV args fun t0 args => popI .i64 args fun t1 args => endA args (S104_3 D m t0 t1 h)
theorem T104_1 (hE : FX x104 D m E) : S104_1 D m = e104_1 (E (.opq true l104_1 c104_2) []) := by unfold S104_1; rw [hE (.opq true l104_1 c104_2)]; kernel_rfl
theorem T104_0 (hE : FX x104 D m E) : S104_0 D m = e104_0 (E c104_0 []) := by unfold S104_0; rw [T104_1 hE, hE c104_0]; kernel_rfl
theorem T104_3 (hE : FX x104 D m E) : S104_3 D m = e104_3 (E c104_e []) := by unfold S104_3; rw [T104_0 hE, hE c104_e]; kernel_rfl
theorem X104 : XTie S104 x104 := X_of fun D m E hE args h u => by unfold S104; rw [T104_3 hE]; kernel_rfl
/- 105 -/
def v105_0 : List Pos := [p2, p3, p4, p5, p6]
def c105_0 : XC := (.sO [.mv p241 q6 .v, .fa p242 1 q3, .st q242 q241] (.seq (.ops true (XL.of [.L p243 (.cells 7 q2) .v, .L p244 (.cells 7 q3) .v, .o ⟨none, (.e (.stores 7 q4 q243)), none, [⟨none, .cells 7 q3, p244⟩]⟩ .v, .ss 7 q5 q244])) (.s .ret)))
def v105_2 : List Pos := [p2, p3, p4, p5, p6, p7]
def c105_2 : XC := (.sO [.mv p86 q7 .v, .fa p87 2 q3, .st q87 q86] (.s (.oX [.fa p88 4 q2, .ld p89 q88 tI, .fa p90 0 q3, .ld p91 q90 tI, .bn p92 .sub q89 q91 tI, .bn p93 .add q92 (ci 2) tI, .fa p94 4 q2, .st q94 q93])))
def v105_3 : List Pos := [p2, p3, p4, p5, p6, p7, p63, p64]
def c105_3b : XC := (.sO [.bn p65 .lss q64 q63 .b] (.seq (.cond q65 .skip (.exit 1)) (.seq (.block 2 (.seq (.oX [.mv p66 q64 tI, .mv p8 q66 tI]) (.seq (.oX [.P p67 (.build [(kI 0), .nils, .nils, (.str []), (kI 0), (kI 0), (kI 0)] []) .v, .al p9 (.new [(kI 0), .nils, .nils, (.str []), (kI 0), (kI 0), (kI 0)]), .ss 7 q9 q67]) (.seq (.ops true (XL.of [.L p69 (.cells 7 q2) .v, .fa p71 2 q3, .ld p72 q71 .v, .mv p73 q8 tI, .P p74 (.iaddr (.sl 7) q72 q73) .v, .L p75 (.cells 7 q74) .v, .o ⟨(some p70), (.call (.fn 67) [q69]), none, [⟨none, .cell q71, p72⟩, ⟨none, .cells 7 q74, p75⟩]⟩ .v, .cl p76 105 [q70, q75] .v, .mv p68 q76 .v, .P p77 (.ext q68 0) .v, .P p78 (.ext q68 1) .v, .ss 7 q2 q77, .ss 7 q9 q78])) (.seq (.oX [.L p79 (.cells 7 q2) .v, .cl p80 72 [q79] .v, .ss 7 q2 q80]) (.oX [.mv p81 q7 .v, .L p82 (.cells 7 q9) .v, .al p83 (.bsl [(kI 0), .nils, .nils, (.str []), (kI 0), (kI 0), (kI 0)] 1 [⟨0, 7, q82⟩]), .o ⟨(some p84), (.e (.app 7 96 q81 q83)), none, []⟩ .v, .mv p7 q84 .v])))))) (.s (.oX [.bn p85 .add q64 (ci 1) tI, .mv p64 q85 tI])))))
def v105_4 : List Pos := [p2, p3, p4, p5, p6]
def c105_4 : XC := (.sO [.mv p109 q6 .v, .P p110 (.lenl q109) tI, .bn p111 .gtr q110 (ci 0) .b] (.cond q111 (.s (.ops true (XL.of [.mv p113 q6 .v, .L p114 (.cells 7 q2) .v, .mv p115 q6 .v, .P p116 (.iaddr (.sl 8) q115 (ci 0)) .v, .L p117 (.cells 8 q116) .v, .fa p118 2 q2, .ld p119 q118 tI, .fa p120 6 q3, .ld p121 q120 tI, .cl p122 70 [q114, q117, q119, q121] .v, .mv p112 q122 .v, .P p123 (.ext q112 0) .v, .P p124 (.ext q112 1) .v, .ss 7 q2 q123, .P p125 (.iaddr (.sl 8) q113 (ci 0)) .v, .ss 8 q125 q124]))) (.s .skip)))
def v105_8 : List Pos := [p2, p3, p4, p5, p6]
def c105_8 : XC := (.s (.oX [.L p229 (.cells 7 q2) .v, .fa p230 3 q3, .ld p231 q230 .s, .fa p232 4 q3, .ld p233 q232 tI, .fa p234 5 q3, .ld p235 q234 tI, .P p236 (.build [(.bool false), (.bool false), (.bool false), (.str []), (kI 0), (kI 0), .nils, (.bool false), .nils, (kI 0), .nils, .nils, (.str []), (kI 0), (kI 0), (kI 0), (kI 0)] [⟨3, 1, q231⟩, ⟨4, 1, q233⟩, ⟨5, 1, q235⟩]) .v, .cl p237 69 [q229, q236] .v, .mv p228 q237 .v, .P p238 (.ext q228 0) .v, .P p239 (.ext q228 1) .s, .ss 7 q2 q238, .fa p240 3 q3, .st q240 q239]))
def c105_11 : XC := (.cond q223 (.s (.oX [.L p224 (.cells 7 q2) .v, .fa p225 6 q3, .ld p226 q225 tI, .cl p227 32 [q224, (ci 14), q226] .v, .ss 7 q2 q227])) (.s .skip))
def l105_10 : XL := (XL.of [])
def l105_9 : XL := (XL.pre [.P p223 (.pick q208 (cb true) q222) .b, .jn p208 [p2, p3, p4, p5, p6, p223]] l105_10)
def v105_7 : List Pos := [p2, p3, p4, p5, p6, p12]
def c105_7 : XC := (.sj v105_8 (.opq false (XL.pre [.mv p201 q12 .b, .P p202 (.un .not q201) .b, .mv p203 q202 .b, .ge p203 (XL.of [.G p203 false p204 (.faddr 4 q3) .v, .o ⟨(some p205), (.l (.cell q204)), (some (p203, false)), []⟩ tI, .G p203 false p206 (.bin .eql q205 (ci 0)) .b, .P p207 (.pick q203 (cb true) q206) .b]) p207 .b, .mv p208 q207 .b, .sp p208, .G p208 false p209 (.faddr 5 q3) .v, .o ⟨(some p210), (.l (.cell q209)), (some (p208, false)), []⟩ tI, .G p208 false p211 (.bin .gtr q210 (ci 0)) .b, .G p208 false p212 (.mov q211) .b, .sp p212, .G p212 true p213 (.faddr 4 q3) .v, .o ⟨(some p214), (.l (.cell q213)), (some (p212, true)), []⟩ tI, .o ⟨(some p215), (.call (.fn 66) [q214]), (some (p212, true)), []⟩ .b, .G p212 true p216 (.un .not q215) .b, .G p212 true p217 (.mov q216) .b, .ge p217 (XL.of [.G p217 false p218 (.mov q6) .v, .G p217 false p219 (.lenl q218) tI, .G p217 false p220 (.bin .gtr q219 (ci 0)) .b, .G p212 true p221 (.pick q217 (cb true) q220) .b]) p221 .b, .G p208 false p222 (.pick q212 q221 (cb false)) .b, .jn p212 [p2, p3, p4, p5, p6, p208, p222]] l105_9) c105_11) c105_8)
def v105_6 : List Pos := [p2, p3, p4, p5, p6]
def c105_6 : XC := (.sO [.mv p12 (cb true) .b] (.sj v105_7 (.sO [.mv p172 q6 .v, .P p173 (.lenl q172) tI, .bn p174 .gtr q173 (ci 0) .b, .mv p175 q174 .b, .ge p175 (XL.of [.G p175 true p176 (.faddr 5 q2) .v, .o ⟨(some p177), (.l (.cell q176)), (some (p175, true)), []⟩ tI, .G p175 true p178 (.bin .eql q177 (ci 0)) .b, .P p179 (.pick q175 q178 (cb false)) .b]) p179 .b] (.cond q179 (.seq (.ops true (XL.of [.mv p181 q6 .v, .L p182 (.cells 7 q2) .v, .mv p183 q6 .v, .P p184 (.iaddr (.sl 8) q183 (ci 0)) .v, .L p185 (.cells 8 q184) .v, .cl p186 103 [q182, q185] .v, .mv p180 q186 .v, .P p187 (.ext q180 0) .v, .P p188 (.ext q180 1) .v, .ss 7 q2 q187, .P p189 (.iaddr (.sl 8) q181 (ci 0)) .v, .ss 8 q189 q188])) (.s (.ops true (XL.of [.mv p191 q6 .v, .mv p192 q6 .v, .P p193 (.iaddr (.sl 8) q192 (ci 0)) .v, .L p194 (.cells 8 q193) .v, .fa p195 4 q3, .ld p196 q195 tI, .cl p197 104 [q194, q196] .v, .mv p190 q197 .v, .P p198 (.ext q190 0) .v, .P p199 (.ext q190 1) .b, .P p200 (.iaddr (.sl 8) q191 (ci 0)) .v, .ss 8 q200 q198, .mv p12 q199 .b])))) (.s .skip))) c105_7))
def v105_5 : List Pos := [p2, p3, p4, p5, p6, p23, p126]
def c105_5 : XC := (.cond q126 (.sO [.fa p129 4 q2, .ld p130 q129 tI, .bn p131 .eql q130 (ci 0) .b] (.cond q131 (.s (.oX [.L p132 (.cells 7 q2) .v, .fa p133 6 q3, .ld p134 q133 tI, .cl p135 32 [q132, (ci 14), q134] .v, .ss 7 q2 q135])) (.s .skip))) (.sO [.bn p137 .eql q23 (ci 7) .b, .mv p136 q137 .b] (.cond q136 (.sO [.mv p138 q6 .v, .P p139 (.lenl q138) tI, .bn p140 .gtr q139 (ci 0) .b] (.cond q140 (.s (.ops true (XL.of [.mv p142 q6 .v, .L p143 (.cells 7 q2) .v, .mv p144 q6 .v, .P p145 (.iaddr (.sl 8) q144 (ci 0)) .v, .L p146 (.cells 8 q145) .v, .cl p147 103 [q143, q146] .v, .mv p141 q147 .v, .P p148 (.ext q141 0) .v, .P p149 (.ext q141 1) .v, .ss 7 q2 q148, .P p150 (.iaddr (.sl 8) q142 (ci 0)) .v, .ss 8 q150 q149]))) (.s .skip))) (.sO [.bn p152 .eql q23 (ci 8) .b, .mv p151 q152 .b] (.cond q151 (.sO [.L p154 (.cells 7 q2) .v, .fa p155 3 q3, .ld p156 q155 .s, .cl p157 68 [q154, q156] .v, .mv p153 q157 .v, .P p158 (.ext q153 0) .v, .P p159 (.ext q153 1) .b, .al p10 (.new [(.bool false), (.bool false), (.bool false), (.str []), (kI 0), (kI 0), .nils, (.bool false), .nils, (kI 0), .nils, .nils, (.str []), (kI 0), (kI 0), (kI 0), (kI 0), (.str []), (kI 0)]), .ss 19 q10 q158, .mv p11 q159 .b] (.sj v105_6 (.sO [.mv p160 q11 .b, .mv p161 q160 .b, .ge p161 (XL.of [.G p161 true p162 (.faddr 18 q10) .v, .o ⟨(some p163), (.l (.cell q162)), (some (p161, true)), []⟩ tI, .G p161 true p164 (.faddr 1 q2) .v, .o ⟨(some p165), (.l (.cell q164)), (some (p161, true)), []⟩ tI, .G p161 true p166 (.bin .eql q163 q165) .b, .P p167 (.pick q161 q166 (cb false)) .b]) p167 .b] (.cond q167 (.s (.oX [.L p168 (.cells 7 q2) .v, .fa p169 6 q3, .ld p170 q169 tI, .cl p171 32 [q168, (ci 13), q170] .v, .ss 7 q2 q171])) (.s .skip))) c105_6)) (.s .skip))))))
def v105_1 : List Pos := [p2, p3, p4, p5, p6, p23, p37]
def c105_1 : XC := (.cond q37 (.seq (.ops true (XL.of [.mv p41 q6 .v, .L p42 (.cells 7 q2) .v, .mv p43 q6 .v, .P p44 (.iaddr (.sl 8) q43 (ci 0)) .v, .L p45 (.cells 8 q44) .v, .mv p46 q6 .v, .P p47 (.iaddr (.sl 8) q46 (ci 0)) .v, .fa p48 7 q47, .ld p49 q48 tI, .cl p50 70 [q42, q45, (ci 1), q49] .v, .mv p40 q50 .v, .P p51 (.ext q40 0) .v, .P p52 (.ext q40 1) .v, .ss 7 q2 q51, .P p53 (.iaddr (.sl 8) q41 (ci 0)) .v, .ss 8 q53 q52])) (.sO [.fa p54 4 q2, .ld p55 q54 tI, .fa p56 0 q3, .ld p57 q56 tI, .bn p58 .add q55 q57 tI, .bn p59 .sub q58 (ci 2) tI, .fa p60 4 q2, .st q60 q59] (.sO [.mv p7 (.c .nils) .v] (.sj v105_2 (.sO [.fa p61 2 q3, .ld p62 q61 .v, .P p63 (.lenl q62) tI, .mv p64 (ci 0) tI] (.block 1 (.loop v105_3 c105_3b))) c105_2)))) (.sO [.bn p96 .eql q23 (ci 4) .b, .mv p95 q96 .b] (.cond q95 (.sj v105_4 (.sO [.mv p97 q6 .v, .P p98 (.lenl q97) tI, .bn p99 .eql q98 (ci 0) .b, .mv p100 q99 .b, .ge p100 (XL.of [.G p100 true p101 (.faddr 2 q2) .v, .o ⟨(some p102), (.l (.cell q101)), (some (p100, true)), []⟩ tI, .G p100 true p103 (.bin .neq q102 (ci 0)) .b, .P p104 (.pick q100 q103 (cb false)) .b]) p104 .b] (.cond q104 (.s (.oX [.L p105 (.cells 7 q2) .v, .fa p106 6 q3, .ld p107 q106 tI, .cl p108 32 [q105, (ci 14), q107] .v, .ss 7 q2 q108])) (.s .skip))) c105_4) (.sj v105_5 (.sO [.bn p127 .eql q23 (ci 5) .b, .mv p126 q127 .b] (.cond q126 (.s .skip) (.s (.oX [.bn p128 .eql q23 (ci 6) .b, .mv p126 q128 .b])))) c105_5))))
def c105_e : XC := (.sO [.al p2 (.box q0), .al p3 (.box q1), .al p4 (.new [.nils, (kI 0), (kI 0), (kI 0), (kI 0), (kI 0), (kI 0)]), .al p5 (.new [(kI 0), .nils, .nils, (.str []), (kI 0), (kI 0), (kI 0)])] (.seq (.seq (.oX [.fa p13 5 q2, .ld p14 q13 tI, .bn p15 .neq q14 (ci 0) .b]) (.cond q15 (.seq (.ops true (XL.of [.L p16 (.cells 7 q2) .v, .L p17 (.cells 7 q3) .v, .o ⟨none, (.e (.stores 7 q4 q16)), none, [⟨none, .cells 7 q3, p17⟩]⟩ .v, .ss 7 q5 q17])) .ret) .skip)) (.sO [.al p18 (.bsl [] 0 []), .fa p19 1 q3, .ld p20 q19 .v, .o ⟨(some p21), (.e (.app 8 96 q18 q20)), none, []⟩ .v, .mv p6 q21 .v] (.sj v105_0 (.sO [.fa p22 0 q3, .ld p23 q22 tI] (.block 0 (.sO [.bn p25 .eql q23 (ci 1) .b, .mv p24 q25 .b] (.cond q24 (.seq (.ops true (XL.of [.L p27 (.cells 7 q2) .v, .fa p29 2 q3, .ld p30 q29 .v, .o ⟨(some p28), (.call (.fn 67) [q27]), none, [⟨none, .cell q29, p30⟩]⟩ .v, .cl p31 71 [q28, q30] .v, .mv p26 q31 .v, .P p32 (.ext q26 0) .v, .P p33 (.ext q26 1) .v, .ss 7 q2 q32, .fa p34 2 q3, .st q34 q33])) (.s (.oX [.L p35 (.cells 7 q2) .v, .cl p36 72 [q35] .v, .ss 7 q2 q36]))) (.sj v105_1 (.sO [.bn p38 .eql q23 (ci 2) .b, .mv p37 q38 .b] (.cond q37 (.s .skip) (.s (.oX [.bn p39 .eql q23 (ci 3) .b, .mv p37 q39 .b])))) c105_1))))) c105_0))))
def x105 : XFn := ⟨[.v, .v], false, [(.cells 7 p4), (.cells 7 p5)], c105_e⟩
def e105_0 (k t2 t3 t4 t5 t6 h) := kN k [(p2, t2), (p3, t3), (p4, t4), (p5, t5), (p6, t6)] h
def S105_0 (D : CallD) (m : Nat) (t2 t3 t4 t5 t6 : AV) (h : HP) : Res2 :=
 faC 1 t3 fun t242 =>
 stoC t242 t6 h fun h21 =>
 cellsC 7 t2 h21 fun t243 =>
 cellsC 7 t3 h21 fun t244 =>
 stsC 7 t4 t243 h21 fun h22 =>
 br (againE (.stores 7 q4 q243) [⟨none, .cells 7 q3, p244⟩] (mkT [(p4, t4), (p244, t244), (p3, t3)]) h22) (
 stsC 7 t5 t244 h22 fun h23 =>
 cellsC 7 t4 h23 fun t4a =>
 cellsC 7 t5 h23 fun t5a =>
 some (.ret (.tup [t4a, t5a]) h23, .no)) none
def e105_2 (k t2 t3 t4 t5 t6 t7 h) := kN k [(p2, t2), (p3, t3), (p4, t4), (p5, t5), (p6, t6), (p7, t7)] h
def S105_2 (D : CallD) (m : Nat) (t2 t3 t4 t5 t6 t7 : AV) (h : HP) : Res2 :=
 faC 2 t3 fun t87 =>
 stoC t87 t7 h fun h34 =>
 faC 4 t2 fun t88 =>
 ldI t88 h34 fun t89 =>
 faC 0 t3 fun t90 =>
 ldI t90 h34 fun t91 =>
 let t92 := wrQ .i64 (t89 - t91)
 let t93 := wrQ .i64 (addQ t92 (Int.ofNat 2))
 faC 4 t2 fun t94 =>
 stoC t94 (vI t93) h34 fun h35 =>
 S105_0 D m t2 t3 t4 t5 t6 h35
def e105_3 (k t2 t3 t4 t5 t6 t7 t63 t64 h) := kN k [(p2, t2), (p3, t3), (p4, t4), (p5, t5), (p6, t6), (p7, t7), (p63, (vI t63)), (p64, (vI t64))] h
def S105_3b (D : CallD) (m : Nat) (g3 : AV → AV → AV → AV → AV → AV → Int → Int → HP → Res2) (t2 t3 t4 t5 t6 t7 : AV) (t63 t64 : Int) (h : HP) : Res2 :=
 let t65 := ltQ t64 t63
 br t65 (
 let t67 := (AV.agg [(vI (Int.ofNat 0)), (.nils : AV), (.nils : AV), (vS ([] : LN)), (vI (Int.ofNat 0)), (vI (Int.ofNat 0)), (vI (Int.ofNat 0))])
 let t9 := AV.ptr (HP.nxQ h) 0
 let h36 := HP.newQ h (.cells true [(kI 0), .nils, .nils, (.str []), (kI 0), (kI 0), (kI 0)])
 stsC 7 t9 t67 h36 fun h37 =>
 cellsC 7 t2 h37 fun t69 =>
 faC 2 t3 fun t71 =>
 cellC t71 h37 fun t72 =>
 iasC 7 t72 (vI t64) fun t74 =>
 cellsC 7 t74 h37 fun t75 =>
 cal D 67 [t69] h37 fun t70 h38 =>
 br (again [⟨none, .cell q71, p72⟩, ⟨none, .cells 7 q74, p75⟩] (mkT [(p75, t75), (p74, t74), (p72, t72), (p71, t71)]) h38) (
 cal D 105 [t70, t75] h38 fun t76 h39 =>
 extC t76 0 fun t77 =>
 extC t76 1 fun t78 =>
 stsC 7 t2 t77 h39 fun h40 =>
 stsC 7 t9 t78 h40 fun h41 =>
 cellsC 7 t2 h41 fun t79 =>
 cal D 72 [t79] h41 fun t80 h42 =>
 stsC 7 t2 t80 h42 fun h43 =>
 cellsC 7 t9 h43 fun t82 =>
 obQ (evA (.bsl [(kI 0), .nils, .nils, (.str []), (kI 0), (kI 0), (kI 0)] 1 [⟨0, 7, (.c t82)⟩]) .leaf) fun r44 =>
 let t83 := vkV r44.2 (HP.nxQ h43)
 let h45 := HP.newQ h43 r44.1
 eff (.app 7 96 (.c t7) (.c t83)) h45 fun t84 h46 =>
 let t85 := wrQ .i64 (addQ t64 (Int.ofNat 1))
 g3 t2 t3 t4 t5 t6 t84 t63 t85 h46) none) (
 S105_2 D m t2 t3 t4 t5 t6 t7 h)
def S105_3 (D : CallD) (m : Nat) : AV → AV → AV → AV → AV → AV → Int → Int → HP → Res2 := nrec (fun _ _ _ _ _ _ _ _ _ => none) (fun _ g => S105_3b D m g) m
def e105_4 (k t2 t3 t4 t5 t6 h) := kN k [(p2, t2), (p3, t3), (p4, t4), (p5, t5), (p6, t6)] h
def S105_4 (D : CallD) (m : Nat) (t2 t3 t4 t5 t6 : AV) (h : HP) : Res2 :=
 lenC t6 fun vt110 => asI .i64 vt110 fun t110 =>
 let t111 := ltQ (Int.ofNat 0) t110
 br t111 (
 cellsC 7 t2 h fun t114 =>
 iasC 8 t6 (vI (Int.ofNat 0)) fun t116 =>
 cellsC 8 t116 h fun t117 =>
 faC 2 t2 fun t118 =>
 ldI t118 h fun t119 =>
 faC 6 t3 fun t120 =>
 ldI t120 h fun t121 =>
 cal D 70 [t114, t117, (vI t119), (vI t121)] h fun t122 h47 =>
 extC t122 0 fun t123 =>
 extC t122 1 fun t124 =>
 stsC 7 t2 t123 h47 fun h48 =>
 iasC 8 t6 (vI (Int.ofNat 0)) fun t125 =>
 stsC 8 t125 t124 h48 fun h49 =>
 S105_0 D m t2 t3 t4 t5 t6 h49) (
 S105_0 D m t2 t3 t4 t5 t6 h)
def e105_8 (k t2 t3 t4 t5 t6 h) := kN k [(p2, t2), (p3, t3), (p4, t4), (p5, t5), (p6, t6)] h
def S105_8 (D : CallD) (m : Nat) (t2 t3 t4 t5 t6 : AV) (h : HP) : Res2 :=
 cellsC 7 t2 h fun t229 =>
 faC 3 t3 fun t230 =>
 ldS t230 h fun t231 =>
 faC 4 t3 fun t232 =>
 ldI t232 h fun t233 =>
 faC 5 t3 fun t234 =>
 ldI t234 h fun t235 =>
 let t236 := (AV.agg [(vB false), (vB false), (vB false), (vS t231), (vI t233), (vI t235), (.nils : AV), (vB false), (.nils : AV), (vI (Int.ofNat 0)), (.nils : AV), (.nils : AV), (vS ([] : LN)), (vI (Int.ofNat 0)), (vI (Int.ofNat 0)), (vI (Int.ofNat 0)), (vI (Int.ofNat 0))])
 cal D 69 [t229, t236] h fun t237 h60 =>
 extC t237 0 fun t238 =>
 extC t237 1 fun vt239 => asS vt239 fun t239 =>
 stsC 7 t2 t238 h60 fun h61 =>
 faC 3 t3 fun t240 =>
 stoC t240 (vS t239) h61 fun h62 =>
 S105_0 D m t2 t3 t4 t5 t6 h62
def e105_10 (k t2 t3 t4 t5 t6 t223 h) := kN k [(p2, t2), (p3, t3), (p4, t4), (p5, t5), (p6, t6), (p223, (vB t223))] h
def S105_10 (D : CallD) (m : Nat) (t2 t3 t4 t5 t6 : AV) (t223 : Bool) (h : HP) : Res2 :=
 br t223 (
 cellsC 7 t2 h fun t224 =>
 faC 6 t3 fun t225 =>
 ldI t225 h fun t226 =>
 cal D 32 [t224, (vI (Int.ofNat 14)), (vI t226)] h fun t227 h63 =>
 stsC 7 t2 t227 h63 fun h64 =>
 S105_8 D m t2 t3 t4 t5 t6 h64) (
 S105_8 D m t2 t3 t4 t5 t6 h)
def e105_9 (k t2 t3 t4 t5 t6 t208 t222 h) := kN k [(p2, t2), (p3, t3), (p4, t4), (p5, t5), (p6, t6), (p208, (vB t208)), (p222, (vB t222))] h
def S105_9 (D : CallD) (m : Nat) (t2 t3 t4 t5 t6 : AV) (t208 t222 : Bool) (h : HP) : Res2 :=
 obB (brV t208 (some (vB true)) (some (vB t222))) fun t223 =>
 S105_10 D m t2 t3 t4 t5 t6 t223 h
def e105_7 (k t2 t3 t4 t5 t6 t12 h) := kN k [(p2, t2), (p3, t3), (p4, t4), (p5, t5), (p6, t6), (p12, (vB t12))] h
def S105_7 (D : CallD) (m : Nat) (t2 t3 t4 t5 t6 : AV) (t12 : Bool) (h : HP) : Res2 :=
 let t202 := !t12
 obB (brV t202 (
 some (vB true)) (
 faCV 4 t3 fun t204 =>
 ldIV t204 h fun t205 =>
 let t206 := eqQ t205 (Int.ofNat 0)
 some (vB t206))) fun t207 =>
 br t207 (
 S105_10 D m t2 t3 t4 t5 t6 true h) (
 faC 5 t3 fun t209 =>
 ldI t209 h fun t210 =>
 let t211 := ltQ (Int.ofNat 0) t210
 br t211 (
 faC 4 t3 fun t213 =>
 ldI t213 h fun t214 =>
 cal D 66 [(vI t214)] h fun t215 h65 =>
 asB t215 fun t215a =>
 let t216 := !t215a
 obB (brV t216 (
 some (vB true)) (
 lenCV t6 fun vt219 => asIV .i64 vt219 fun t219 =>
 let t220 := ltQ (Int.ofNat 0) t219
 some (vB t220))) fun t221 =>
 S105_9 D m t2 t3 t4 t5 t6 false t221 h65) (
 S105_9 D m t2 t3 t4 t5 t6 false false h))
def e105_6 (k t2 t3 t4 t5 t6 h) := kN k [(p2, t2), (p3, t3), (p4, t4), (p5, t5), (p6, t6)] h
def S105_6 (D : CallD) (m : Nat) (t2 t3 t4 t5 t6 : AV) (h : HP) : Res2 :=
 lenC t6 fun vt173 => asI .i64 vt173 fun t173 =>
 let t174 := ltQ (Int.ofNat 0) t173
 obB (brV t174 (
 faCV 5 t2 fun t176 =>
 ldIV t176 h fun t177 =>
 let t178 := eqQ t177 (Int.ofNat 0)
 some (vB t178)) (
 some (vB false))) fun t179 =>
 br t179 (
 cellsC 7 t2 h fun t182 =>
 iasC 8 t6 (vI (Int.ofNat 0)) fun t184 =>
 cellsC 8 t184 h fun t185 =>
 cal D 103 [t182, t185] h fun t186 h66 =>
 extC t186 0 fun t187 =>
 extC t186 1 fun t188 =>
 stsC 7 t2 t187 h66 fun h67 =>
 iasC 8 t6 (vI (Int.ofNat 0)) fun t189 =>
 stsC 8 t189 t188 h67 fun h68 =>
 iasC 8 t6 (vI (Int.ofNat 0)) fun t193 =>
 cellsC 8 t193 h68 fun t194 =>
 faC 4 t3 fun t195 =>
 ldI t195 h68 fun t196 =>
 cal D 104 [t194, (vI t196)] h68 fun t197 h69 =>
 extC t197 0 fun t198 =>
 extC t197 1 fun vt199 => asB vt199 fun t199 =>
 iasC 8 t6 (vI (Int.ofNat 0)) fun t200 =>
 stsC 8 t200 t198 h69 fun h70 =>
 S105_7 D m t2 t3 t4 t5 t6 t199 h70) (
 S105_7 D m t2 t3 t4 t5 t6 true h)
def e105_5 (k t2 t3 t4 t5 t6 t23 t126 h) := kN k [(p2, t2), (p3, t3), (p4, t4), (p5, t5), (p6, t6), (p23, (vI t23)), (p126, (vB t126))] h
def S105_5 (D : CallD) (m : Nat) (t2 t3 t4 t5 t6 : AV) (t23 : Int) (t126 : Bool) (h : HP) : Res2 :=
 br t126 (
 faC 4 t2 fun t129 =>
 ldI t129 h fun t130 =>
 let t131 := eqQ t130 (Int.ofNat 0)
 br t131 (
 cellsC 7 t2 h fun t132 =>
 faC 6 t3 fun t133 =>
 ldI t133 h fun t134 =>
 cal D 32 [t132, (vI (Int.ofNat 14)), (vI t134)] h fun t135 h52 =>
 stsC 7 t2 t135 h52 fun h53 =>
 S105_0 D m t2 t3 t4 t5 t6 h53) (
 S105_0 D m t2 t3 t4 t5 t6 h)) (
 let t137 := eqQ t23 (Int.ofNat 7)
 br t137 (
 lenC t6 fun vt139 => asI .i64 vt139 fun t139 =>
 let t140 := ltQ (Int.ofNat 0) t139
 br t140 (
 cellsC 7 t2 h fun t143 =>
 iasC 8 t6 (vI (Int.ofNat 0)) fun t145 =>
 cellsC 8 t145 h fun t146 =>
 cal D 103 [t143, t146] h fun t147 h54 =>
 extC t147 0 fun t148 =>
 extC t147 1 fun t149 =>
 stsC 7 t2 t148 h54 fun h55 =>
 iasC 8 t6 (vI (Int.ofNat 0)) fun t150 =>
 stsC 8 t150 t149 h55 fun h56 =>
 S105_0 D m t2 t3 t4 t5 t6 h56) (
 S105_0 D m t2 t3 t4 t5 t6 h)) (
 let t152 := eqQ t23 (Int.ofNat 8)
 br t152 (
 cellsC 7 t2 h fun t154 =>
 faC 3 t3 fun t155 =>
 ldS t155 h fun t156 =>
 cal D 68 [t154, (vS t156)] h fun t157 h57 =>
 extC t157 0 fun t158 =>
 extC t157 1 fun vt159 => asB vt159 fun t159 =>
 let t10 := AV.ptr (HP.nxQ h57) 0
 let h58 := HP.newQ h57 (.cells true [(.bool false), (.bool false), (.bool false), (.str []), (kI 0), (kI 0), .nils, (.bool false), .nils, (kI 0), .nils, .nils, (.str []), (kI 0), (kI 0), (kI 0), (kI 0), (.str []), (kI 0)])
 stsC 19 t10 t158 h58 fun h59 =>
 obB (brV t159 (
 let t162 := (AV.ptr (HP.nxQ h57) (Nat.add 0 18))
 ldIV t162 h59 fun t163 =>
 faCV 1 t2 fun t164 =>
 ldIV t164 h59 fun t165 =>
 let t166 := eqQ t163 t165
 some (vB t166)) (
 some (vB false))) fun t167 =>
 br t167 (
 cellsC 7 t2 h59 fun t168 =>
 faC 6 t3 fun t169 =>
 ldI t169 h59 fun t170 =>
 cal D 32 [t168, (vI (Int.ofNat 13)), (vI t170)] h59 fun t171 h71 =>
 stsC 7 t2 t171 h71 fun h72 =>
 S105_6 D m t2 t3 t4 t5 t6 h72) (
 S105_6 D m t2 t3 t4 t5 t6 h59)) (
 S105_0 D m t2 t3 t4 t5 t6 h)))
def e105_1 (k t2 t3 t4 t5 t6 t23 t37 h) := kN k [(p2, t2), (p3, t3), (p4, t4), (p5, t5), (p6, t6), (p23, (vI t23)), (p37, (vB t37))] h
def S105_1 (D : CallD) (m : Nat) (t2 t3 t4 t5 t6 : AV) (t23 : Int) (t37 : Bool) (h : HP) : Res2 :=
 br t37 (
 cellsC 7 t2 h fun t42 =>
 iasC 8 t6 (vI (Int.ofNat 0)) fun t44 =>
 cellsC 8 t44 h fun t45 =>
 iasC 8 t6 (vI (Int.ofNat 0)) fun t47 =>
 faC 7 t47 fun t48 =>
 ldI t48 h fun t49 =>
 cal D 70 [t42, t45, (vI (Int.ofNat 1)), (vI t49)] h fun t50 h30 =>
 extC t50 0 fun t51 =>
 extC t50 1 fun t52 =>
 stsC 7 t2 t51 h30 fun h31 =>
 iasC 8 t6 (vI (Int.ofNat 0)) fun t53 =>
 stsC 8 t53 t52 h31 fun h32 =>
 faC 4 t2 fun t54 =>
 ldI t54 h32 fun t55 =>
 faC 0 t3 fun t56 =>
 ldI t56 h32 fun t57 =>
 let t58 := wrQ .i64 (addQ t55 t57)
 let t59 := wrQ .i64 (t58 - (Int.ofNat 2))
 faC 4 t2 fun t60 =>
 stoC t60 (vI t59) h32 fun h33 =>
 faC 2 t3 fun t61 =>
 cellC t61 h33 fun t62 =>
 lenC t62 fun vt63 => asI .i64 vt63 fun t63 =>
 S105_3 D m t2 t3 t4 t5 t6 (.nils : AV) t63 (Int.ofNat 0) h33) (
 let t96 := eqQ t23 (Int.ofNat 4)
 br t96 (
 lenC t6 fun vt98 => asI .i64 vt98 fun t98 =>
 let t99 := eqQ t98 (Int.ofNat 0)
 obB (brV t99 (
 faCV 2 t2 fun t101 =>
 ldIV t101 h fun t102 =>
 let t103 := notQ (eqQ t102 (Int.ofNat 0))
 some (vB t103)) (
 some (vB false))) fun t104 =>
 br t104 (
 cellsC 7 t2 h fun t105 =>
 faC 6 t3 fun t106 =>
 ldI t106 h fun t107 =>
 cal D 32 [t105, (vI (Int.ofNat 14)), (vI t107)] h fun t108 h50 =>
 stsC 7 t2 t108 h50 fun h51 =>
 S105_4 D m t2 t3 t4 t5 t6 h51) (
 S105_4 D m t2 t3 t4 t5 t6 h)) (
 let t127 := eqQ t23 (Int.ofNat 5)
 br t127 (
 S105_5 D m t2 t3 t4 t5 t6 t23 t127 h) (
 let t128 := eqQ t23 (Int.ofNat 6)
 S105_5 D m t2 t3 t4 t5 t6 t23 t128 h)))
def e105_12 (k t0 t1 h) := kN k [(p0, t0), (p1, t1)] h
def S105_12 (D : CallD) (m : Nat) (t0 t1 : AV) (h : HP) : Res2 :=
 let t2 := AV.ptr (HP.nxQ h) 0
 let h13 := HP.newQ h (.cells true (AV.cells t0))
 let t3 := AV.ptr (HP.nxQ h13) 0
 let h14 := HP.newQ h13 (.cells true (AV.cells t1))
 let t4 := AV.ptr (HP.nxQ h14) 0
 let h15 := HP.newQ h14 (.cells true [.nils, (kI 0), (kI 0), (kI 0), (kI 0), (kI 0), (kI 0)])
 let t5 := AV.ptr (HP.nxQ h15) 0
 let h16 := HP.newQ h15 (.cells true [(kI 0), .nils, .nils, (.str []), (kI 0), (kI 0), (kI 0)])
 let t13 := (AV.ptr (HP.nxQ h) (Nat.add 0 5))
 ldI t13 h16 fun t14 =>
 let t15 := notQ (eqQ t14 (Int.ofNat 0))
 br t15 (
 cellsC 7 t2 h16 fun t16 =>
 cellsC 7 t3 h16 fun t17 =>
 stsC 7 t4 t16 h16 fun h17 =>
 br (againE (.stores 7 q4 q16) [⟨none, .cells 7 q3, p17⟩] (mkT [(p4, t4), (p17, t17), (p3, t3)]) h17) (
 stsC 7 t5 t17 h17 fun h18 =>
 cellsC 7 t4 h18 fun t4a =>
 cellsC 7 t5 h18 fun t5a =>
 some (.ret (.tup [t4a, t5a]) h18, .no)) none) (
 let t18 := AV.slice (HP.nxQ h16) 0 0 (.exact 0)
 let h19 := HP.newQ h16 (.cells true [])
 let t19 := (AV.ptr (HP.nxQ h13) (Nat.add 0 1))
 cellC t19 h19 fun t20 =>
 eff (.app 8 96 (.c t18) (.c t20)) h19 fun t21 h20 =>
 let t22 := (AV.ptr (HP.nxQ h13) (Nat.add 0 0))
 ldI t22 h20 fun t23 =>
 let t25 := eqQ t23 (Int.ofNat 1)
 br t25 (
 cellsC 7 t2 h20 fun t27 =>
 let t29 := (AV.ptr (HP.nxQ h13) (Nat.add 0 2))
 cellC t29 h20 fun t30 =>
 cal D 67 [t27] h20 fun t28 h24 =>
 br (again [⟨none, .cell q29, p30⟩] (mkT [(p30, t30), (p29, t29)]) h24) (
 cal D 71 [t28, t30] h24 fun t31 h25 =>
 extC t31 0 fun t32 =>
 extC t31 1 fun t33 =>
 stsC 7 t2 t32 h25 fun h26 =>
 let t34 := (AV.ptr (HP.nxQ h13) (Nat.add 0 2))
 stoC t34 t33 h26 fun h27 =>
 cellsC 7 t2 h27 fun t35 =>
 cal D 72 [t35] h27 fun t36 h28 =>
 stsC 7 t2 t36 h28 fun h29 =>
 S105_0 D m t2 t3 t4 t5 t21 h29) none) (
 let t38 := eqQ t23 (Int.ofNat 2)
 br t38 (
 S105_1 D m t2 t3 t4 t5 t21 t23 t38 h20) (
 let t39 := eqQ t23 (Int.ofNat 3)
 S105_1 D m t2 t3 t4 t5 t21 t23 t39 h20)))
def S105 : SFn := fun D m args h u => nou u <| popV args fun t0 args => popV args fun t1 args => endA args (S105_12 D m t0 t1 h)
theorem T105_0 (hE : FX x105 D m E) : S105_0 D m = e105_0 (E c105_0 []) := by unfold S105_0; rw [hE c105_0]; kernel_rfl
theorem T105_2 (hE : FX x105 D m E) : S105_2 D m = e105_2 (E c105_2 [.blk 0, .sj v105_0 c105_0]) := by unfold S105_2; rw [T105_0 hE, hE c105_2]; kernel_rfl
theorem T105_3b (hE : FX x105 D m E) (G3) : S105_3b D m (e105_3 G3) = e105_3 (E c105_3b [.lp v105_3 G3, .blk 1, .sj v105_2 c105_2, .blk 0, .sj v105_0 c105_0]) := by unfold S105_3b; rw [T105_2 hE, hE c105_3b]; kernel_rfl
theorem T105_3 (hE : FX x105 D m E) : S105_3 D m = e105_3 (nrec (fun _ => none) (fun _ G3 st => E c105_3b [.lp v105_3 G3, .blk 1, .sj v105_2 c105_2, .blk 0, .sj v105_0 c105_0] st) m) :=
  nrec_emb e105_3 (fun _ _ _ _ _ _ _ _ _ => none) (fun g => S105_3b D m g) (fun G3 st => E c105_3b [.lp v105_3 G3, .blk 1, .sj v105_2 c105_2, .blk 0, .sj v105_0 c105_0] st) rfl (fun g => T105_3b hE g) m
theorem T105_4 (hE : FX x105 D m E) : S105_4 D m = e105_4 (E c105_4 [.blk 0, .sj v105_0 c105_0]) := by unfold S105_4; rw [T105_0 hE, hE c105_4]; kernel_rfl
theorem T105_8 (hE : FX x105 D m E) : S105_8 D m = e105_8 (E c105_8 [.blk 0, .sj v105_0 c105_0]) := by unfold S105_8; rw [T105_0 hE, hE c105_8]; kernel_rfl
theorem T105_10 (hE : FX x105 D m E) : S105_10 D m = e105_10 (E (.opq false l105_10 c105_11) [.sj v105_8 c105_8, .blk 0, .sj v105_0 c105_0]) := by unfold S105_10; rw [T105_8 hE, hE (.opq false l105_10 c105_11)]; kernel_rfl
theorem T105_9 (hE : FX x105 D m E) : S105_9 D m = e105_9 (E (.opq false l105_9 c105_11) [.sj v105_8 c105_8, .blk 0, .sj v105_0 c105_0]) := by unfold S105_9; rw [T105_10 hE, hE (.opq false l105_9 c105_11)]; kernel_rfl
theorem T105_7 (hE : FX x105 D m E) : S105_7 D m = e105_7 (E c105_7 [.blk 0, .sj v105_0 c105_0]) := by unfold S105_7; rw [T105_10 hE, T105_9 hE, hE c105_7]; kernel_rfl
theorem T105_6 (hE : FX x105 D m E) : S105_6 D m = e105_6 (E c105_6 [.blk 0, .sj v105_0 c105_0]) := by unfold S105_6; rw [T105_7 hE, hE c105_6]; kernel_rfl
theorem T105_5 (hE : FX x105 D m E) : S105_5 D m = e105_5 (E c105_5 [.blk 0, .sj v105_0 c105_0]) := by unfold S105_5; rw [T105_0 hE, T105_6 hE, hE c105_5]; kernel_rfl
theorem T105_1 (hE : FX x105 D m E) : S105_1 D m = e105_1 (E c105_1 [.blk 0, .sj v105_0 c105_0]) := by unfold S105_1; rw [T105_3 hE, T105_4 hE, T105_5 hE, hE c105_1]; kernel_rfl
theorem T105_12 (hE : FX x105 D m E) : S105_12 D m = e105_12 (E c105_e []) := by unfold S105_12; rw [T105_0 hE, T105_1 hE, hE c105_e]; kernel_rfl
theorem X105 : XTie S105 x105 := X_of fun D m E hE args h u => by unfold S105; rw [T105_12 hE]; kernel_rfl
/- 106 -/
def c106_e : XC := (.sO [.mv p2 (.c .nils) .v] (.seq (.seq (.oX [.mv p3 q0 .v, .P p4 (.eqn .sl false q3 (.c .nils)) .b]) (.cond q4 (.seq (.oX [.mv p2 (.c .nils) .v]) .ret) .skip)) (.sO [.al p5 (.bsl [] 0 []), .mv p6 q0 .v, .o ⟨(some p7), (.e (.app 8 96 q5 q6)), none, []⟩ .v, .mv p2 q7 .v] (.s .ret))))
def x106 : XFn := ⟨[.v], false, [(.tmp p2)], c106_e⟩
def e106_0 (k t0 h) := kN k [(p0, t0)] h
def S106_0 (D : CallD) (m : Nat) (t0 : AV) (h : HP) : Res2 :=
 obB (evP (.eqn .sl false (.c t0) (.c (.nils : AV))) .leaf) fun t4 =>
 br t4 (
 some (.ret (.nils : AV) h, .no)) (
 let t5 := AV.slice (HP.nxQ h) 0 0 (.exact 0)
 let h1 := HP.newQ h (.cells true [])
 eff (.app 8 96 (.c t5) (.c t0)) h1 fun t7 h2 =>
 some (.ret t7 h2, .no))
def S106 : SFn := fun D m args h u => nou u <| popV args fun t0 args => endA args (S106_0 D m t0 h)
theorem T106_0 (hE : FX x106 D m E) : S106_0 D m = e106_0 (E c106_e []) := by unfold S106_0; rw [hE c106_e]; kernel_rfl
theorem X106 : XTie S106 x106 := X_of fun D m E hE args h u => by unfold S106; rw [T106_0 hE]; kernel_rfl
/- 107 -/
def c107_e : XC := (.sO [.mv p2 (.c .nils) .v] (.seq (.seq (.oX [.mv p3 q0 .v, .P p4 (.eqn .sl false q3 (.c .nils)) .b]) (.cond q4 (.seq (.oX [.mv p2 (.c .nils) .v]) .ret) .skip)) (.sO [.al p5 (.bsl [] 0 []), .mv p6 q0 .v, .o ⟨(some p7), (.e (.app 7 96 q5 q6)), none, []⟩ .v, .mv p2 q7 .v] (.s .ret))))
def x107 : XFn := ⟨[.v], false, [(.tmp p2)], c107_e⟩
def e107_0 (k t0 h) := kN k [(p0, t0)] h
def S107_0 (D : CallD) (m : Nat) (t0 : AV) (h : HP) : Res2 :=
 obB (evP (.eqn .sl false (.c t0) (.c (.nils : AV))) .leaf) fun t4 =>
 br t4 (
 some (.ret (.nils : AV) h, .no)) (
 let t5 := AV.slice (HP.nxQ h) 0 0 (.exact 0)
 let h1 := HP.newQ h (.cells true [])
 eff (.app 7 96 (.c t5) (.c t0)) h1 fun t7 h2 =>
 some (.ret t7 h2, .no))
def S107 : SFn := fun D m args h u => nou u <| popV args fun t0 args => endA args (S107_0 D m t0 h)
theorem T107_0 (hE : FX x107 D m E) : S107_0 D m = e107_0 (E c107_e []) := by unfold S107_0; rw [hE c107_e]; kernel_rfl
theorem X107 : XTie S107 x107 := X_of fun D m E hE args h u => by unfold S107; rw [T107_0 hE]; kernel_rfl
/- 109 -/
def v109_0 : List Pos := [p0, p1]
def c109_0 : XC := (.sO [.mv p45 q0 tI, .P p46 (.conv (.ii .u64) q45) (.i .u64), .mv p47 q1 tI, .mv p48 q0 tI, .bn p49 .lss q48 (ci 0) .b, .cl p50 127 [(.c .nils), q46, q47, q49, (cb false)] .v, .mv p44 q50 .v, .P p51 (.ext q44 0) .v, .P p52 (.ext q44 1) .s, .mv p8 q51 .v, .mv p9 q52 .s] (.sO [.mv p53 q9 .s, .mv p4 q53 .s] (.s .ret)))
def v109_1 : List Pos := [p0, p5, p6]
def c109_1 : XC := (.sO [.mv p26 q6 (.i .u64), .cl p27 125 [q26] tI, .mv p7 q27 tI] (.sO [.mv p28 q7 tI, .bn p29 .add (ci 1) q28 tI, .P p30 (.slice (.arr 24 1) q5 (some (ci 1)) (some q29) none) .v, .mv p31 q6 (.i .u64), .cl p32 126 [q30, q31] .v] (.seq (.seq (.oX [.mv p33 q0 tI, .bn p34 .lss q33 (ci 0) .b]) (.cond q34 (.seq (.oX [.P p35 (.iaddr (.arr 24 1) q5 (ci 0)) .v, .st q35 (.c (.int .u8 (.ofNat 45)))]) (.seq (.oX [.mv p36 q7 tI, .bn p37 .add (ci 1) q36 tI, .P p38 (.slice (.arr 24 1) q5 none (some q37) none) .v, .L p39 (.bstr q38) .s, .mv p4 q39 .s]) .ret)) .skip)) (.sO [.mv p40 q7 tI, .bn p41 .add (ci 1) q40 tI, .P p42 (.slice (.arr 24 1) q5 (some (ci 1)) (some q41) none) .v, .L p43 (.bstr q42) .s, .mv p4 q43 .s] (.s .ret)))))
def c109_e : XC := (.sO [.mv p4 (.c (.str [])) .s] (.sj v109_0 (.sO [.mv p10 q1 tI, .bn p11 .eql q10 (ci 10) .b] (.cond q11 (.seq (.seq (.oX [.mv p12 q0 tI, .bn p13 .leq (ci 0) q12 .b, .mv p14 q13 .b, .ge p14 (XL.of [.G p14 true p15 (.mov q0) tI, .G p14 true p16 (.bin .lss q15 (ci 100)) .b, .P p17 (.pick q14 q16 (cb false)) .b]) p17 .b]) (.cond q17 (.seq (.oX [.mv p18 q0 tI, .cl p19 124 [q18] .s, .mv p4 q19 .s]) .ret) .skip)) (.sO [.al p5 (.new [(.int .u8 (.ofNat 0)), (.int .u8 (.ofNat 0)), (.int .u8 (.ofNat 0)), (.int .u8 (.ofNat 0)), (.int .u8 (.ofNat 0)), (.int .u8 (.ofNat 0)), (.int .u8 (.ofNat 0)), (.int .u8 (.ofNat 0)), (.int .u8 (.ofNat 0)), (.int .u8 (.ofNat 0)), (.int .u8 (.ofNat 0)), (.int .u8 (.ofNat 0)), (.int .u8 (.ofNat 0)), (.int .u8 (.ofNat 0)), (.int .u8 (.ofNat 0)), (.int .u8 (.ofNat 0)), (.int .u8 (.ofNat 0)), (.int .u8 (.ofNat 0)), (.int .u8 (.ofNat 0)), (.int .u8 (.ofNat 0)), (.int .u8 (.ofNat 0)), (.int .u8 (.ofNat 0)), (.int .u8 (.ofNat 0)), (.int .u8 (.ofNat 0))])] (.sO [.mv p20 q0 tI, .P p21 (.conv (.ii .u64) q20) (.i .u64), .mv p6 q21 (.i .u64)] (.sj v109_1 (.sO [.mv p22 q0 tI, .bn p23 .lss q22 (ci 0) .b] (.cond q23 (.s (.oX [.mv p24 q6 (.i .u64), .P p25 (.un .neg q24) (.i .u64), .mv p6 q25 (.i .u64)])) (.s .skip))) c109_1)))) (.s .skip))) c109_0))
def x109 : XFn := ⟨[tI, tI], false, [(.tmp p4)], c109_e⟩
def e109_0 (k t0 t1 h) := kN k [(p0, (vI t0)), (p1, (vI t1))] h
def S109_0 (D : CallD) (m : Nat) (t0 t1 : Int) (h : HP) : Res2 :=
 let t46 := wrapF .u64 t0
 let t49 := ltQ t0 (Int.ofNat 0)
 cal D 127 [(.nils : AV), (AV.int .u64 t46), (vI t1), (vB t49), (vB false)] h fun t50 h3 =>
 extC t50 0 fun t51 =>
 extC t50 1 fun vt52 => asS vt52 fun t52 =>
 some (.ret (vS t52) h3, .no)
def e109_1 (k t0 t5 t6 h) := kN k [(p0, (vI t0)), (p5, t5), (p6, (AV.int .u64 t6))] h
def S109_1 (D : CallD) (m : Nat) (t0 : Int) (t5 : AV) (t6 : Int) (h : HP) : Res2 :=
 cal D 125 [(AV.int .u64 t6)] h fun t27 h6 =>
 asI .i64 t27 fun t27a =>
 let t29 := wrQ .i64 (addQ (Int.ofNat 1) t27a)
 obQ (evP (.slice (.arr 24 1) (.c t5) (some (.c (vI (Int.ofNat 1)))) (some (.c (vI t29))) none) .leaf) fun t30 =>
 cal D 126 [t30, (AV.int .u64 t6)] h6 fun t32 h7 =>
 let t34 := ltQ t0 (Int.ofNat 0)
 br t34 (
 iarC 24 1 t5 (vI (Int.ofNat 0)) fun t35 =>
 stoC t35 (vC (Int.ofNat 45)) h7 fun h8 =>
 let t37 := wrQ .i64 (addQ (Int.ofNat 1) t27a)
 obQ (evP (.slice (.arr 24 1) (.c t5) none (some (.c (vI t37))) none) .leaf) fun t38 =>
 obS (bstrV t38 h8) fun t39 =>
 some (.ret (vS t39) h8, .no)) (
 let t41 := wrQ .i64 (addQ (Int.ofNat 1) t27a)
 obQ (evP (.slice (.arr 24 1) (.c t5) (some (.c (vI (Int.ofNat 1)))) (some (.c (vI t41))) none) .leaf) fun t42 =>
 obS (bstrV t42 h7) fun t43 =>
 some (.ret (vS t43) h7, .no))
def e109_2 (k t0 t1 h) := kN k [(p0, (vI t0)), (p1, (vI t1))] h
def S109_2 (D : CallD) (m : Nat) (t0 t1 : Int) (h : HP) : Res2 :=
 let t11 := eqQ t1 (Int.ofNat 10)
 br t11 (
 let t13 := leQ (Int.ofNat 0) t0
 obB (brV t13 (
 let t16 := ltQ t0 (Int.ofNat 100)
 some (vB t16)) (
 some (vB false))) fun t17 =>
 br t17 (
 cal D 124 [(vI t0)] h fun t19 h4 =>
 asS t19 fun t19a =>
 some (.ret (vS t19a) h4, .no)) (
 let t5 := AV.ptr (HP.nxQ h) 0
 let h5 := HP.newQ h (.cells true [(.int .u8 (.ofNat 0)), (.int .u8 (.ofNat 0)), (.int .u8 (.ofNat 0)), (.int .u8 (.ofNat 0)), (.int .u8 (.ofNat 0)), (.int .u8 (.ofNat 0)), (.int .u8 (.ofNat 0)), (.int .u8 (.ofNat 0)), (.int .u8 (.ofNat 0)), (.int .u8 (.ofNat 0)), (.int .u8 (.ofNat 0)), (.int .u8 (.ofNat 0)), (.int .u8 (.ofNat 0)), (.int .u8 (.ofNat 0)), (.int .u8 (.ofNat 0)), (.int .u8 (.ofNat 0)), (.int .u8 (.ofNat 0)), (.int .u8 (.ofNat 0)), (.int .u8 (.ofNat 0)), (.int .u8 (.ofNat 0)), (.int .u8 (.ofNat 0)), (.int .u8 (.ofNat 0)), (.int .u8 (.ofNat 0)), (.int .u8 (.ofNat 0))])
 let t21 := wrapF .u64 t0
 let t23 := ltQ t0 (Int.ofNat 0)
 br t23 (
 let t25 := IntKind.wrap .u64 (0 - t21)
 S109_1 D m t0 t5 t25 h5) (
 S109_1 D m t0 t5 t21 h5))) (
 S109_0 D m t0 t1 h)
def S109 : SFn := fun D m args h u => nou u <| popI .i64 args fun t0 args => popI .i64 args fun t1 args => endA args (S109_2 D m t0 t1 h)
theorem T109_0 (hE : FX x109 D m E) : S109_0 D m = e109_0 (E c109_0 []) := by unfold S109_0; rw [hE c109_0]; kernel_rfl
theorem T109_1 (hE : FX x109 D m E) : S109_1 D m = e109_1 (E c109_1 [.sj v109_0 c109_0]) := by unfold S109_1; rw [hE c109_1]; kernel_rfl
theorem T109_2 (hE : FX x109 D m E) : S109_2 D m = e109_2 (E c109_e []) := by unfold S109_2; rw [T109_1 hE, T109_0 hE, hE c109_e]; kernel_rfl
theorem X109 : XTie S109 x109 := X_of fun D m E hE args h u => by unfold S109; rw [T109_2 hE]; kernel_rfl
/- 116 -/
def v116_0 : List Pos := [p1]
def c116_0 : XC := (.sO [.mv p17 q1 tI, .mv p4 q17 tI] (.s .ret))
def v116_2 : List Pos := [p0, p1]
def c116_2 : XC := (.block 1 (.s (.oX [.mv p15 q1 tI, .bn p16 .add q15 (ci 1) tI, .mv p1 q16 tI])))
def c116_4 : XC := (.cond q14 (.s .skip) (.s (.exit 0)))
def l116_3 : XL := (XL.of [])
def v116_1 : List Pos := [p0, p1]
def c116_1b : XC := (.sj v116_2 (.opq false (XL.pre [.mv p5 q1 tI, .mv p6 q0 .s, .P p7 (.lens q6) tI, .bn p8 .lss q5 q7 .b, .mv p9 q8 .b, .sp p9, .G p9 true p10 (.mov q0) .s, .G p9 true p11 (.mov q1) tI, .G p9 true p12 (.idxs q10 q11) tC, .o ⟨(some p13), (.call (.fn 93) [q12]), (some (p9, true)), []⟩ .b, .P p14 (.pick q9 q13 (cb false)) .b, .jn p9 [p0, p1, p14]] l116_3) c116_4) c116_2)
def c116_e : XC := (.sO [.mv p4 (ci 0) tI] (.sj v116_0 (.block 0 (.loop v116_1 c116_1b)) c116_0))
def x116 : XFn := ⟨[.s, tI], false, [(.tmp p4)], c116_e⟩
def e116_0 (k t1 h) := kN k [(p1, (vI t1))] h
def S116_0 (D : CallD) (m : Nat) (t1 : Int) (h : HP) : Res2 :=
 some (.ret (vI t1) h, .no)
def e116_2 (k t0 t1 h) := kN k [(p0, (vS t0)), (p1, (vI t1))] h
def S116_2 (D : CallD) (m : Nat) (g1 : LN → Int → HP → Res2) (t0 : LN) (t1 : Int) (h : HP) : Res2 :=
 let t16 := wrQ .i64 (addQ t1 (Int.ofNat 1))
 g1 t0 t16 h
def e116_3 (k t0 t1 t14 h) := kN k [(p0, (vS t0)), (p1, (vI t1)), (p14, (vB t14))] h
def S116_3 (D : CallD) (m : Nat) (g1 : LN → Int → HP → Res2) (t0 : LN) (t1 : Int) (t14 : Bool) (h : HP) : Res2 :=
 br t14 (
 S116_2 D m g1 t0 t1 h) (
 S116_0 D m t1 h)
def e116_1 (k t0 t1 h) := kN k [(p0, (vS t0)), (p1, (vI t1))] h
def S116_1b (D : CallD) (m : Nat) (g1 : LN → Int → HP → Res2) (t0 : LN) (t1 : Int) (h : HP) : Res2 :=
 let t7 := Int.ofNat (lenL t0)
 let t8 := ltQ t1 t7
 br t8 (
 ixC (vS t0) (vI t1) fun vt12 => asI .u8 vt12 fun t12 =>
 cal D 93 [(vC t12)] h fun t13 h6 =>
 asB t13 fun t13a =>
 S116_3 D m g1 t0 t1 t13a h6) (
 S116_3 D m g1 t0 t1 false h)
def S116_1 (D : CallD) (m : Nat) : LN → Int → HP → Res2 := nrec (fun _ _ _ => none) (fun _ g => S116_1b D m g) m
def e116_5 (k t0 t1 h) := kN k [(p0, (vS t0)), (p1, (vI t1))] h
def S116_5 (D : CallD) (m : Nat) (t0 : LN) (t1 : Int) (h : HP) : Res2 :=
 S116_1 D m t0 t1 h
def S116 : SFn := fun D m args h u => nou u <| popS args fun t0 args => popI .i64 args fun t1 args => endA args (S116_5 D m t0 t1 h)
theorem T116_0 (hE : FX x116 D m E) : S116_0 D m = e116_0 (E c116_0 []) := by unfold S116_0; rw [hE c116_0]; kernel_rfl
theorem T116_2 (hE : FX x116 D m E) (G1) : S116_2 D m (e116_1 G1) = e116_2 (E c116_2 [.lp v116_1 G1, .blk 0, .sj v116_0 c116_0]) := by unfold S116_2; rw [hE c116_2]; kernel_rfl
theorem T116_3 (hE : FX x116 D m E) (G1) : S116_3 D m (e116_1 G1) = e116_3 (E (.opq false l116_3 c116_4) [.sj v116_2 c116_2, .lp v116_1 G1, .blk 0, .sj v116_0 c116_0]) := by unfold S116_3; rw [T116_2 hE G1, T116_0 hE, hE (.opq false l116_3 c116_4)]; kernel_rfl
theorem T116_1b (hE : FX x116 D m E) (G1) : S116_1b D m (e116_1 G1) = e116_1 (E c116_1b [.lp v116_1 G1, .blk 0, .sj v116_0 c116_0]) := by unfold S116_1b; rw [T116_3 hE G1, hE c116_1b]; kernel_rfl
theorem T116_1 (hE : FX x116 D m E) : S116_1 D m = e116_1 (nrec (fun _ => none) (fun _ G1 st => E c116_1b [.lp v116_1 G1, .blk 0, .sj v116_0 c116_0] st) m) :=
  nrec_emb e116_1 (fun _ _ _ => none) (fun g => S116_1b D m g) (fun G1 st => E c116_1b [.lp v116_1 G1, .blk 0, .sj v116_0 c116_0] st) rfl (fun g => T116_1b hE g) m
theorem T116_5 (hE : FX x116 D m E) : S116_5 D m = e116_5 (E c116_e []) := by unfold S116_5; rw [T116_1 hE, hE c116_e]; kernel_rfl
theorem X116 : XTie S116 x116 := X_of fun D m E hE args h u => by unfold S116; rw [T116_5 hE]; kernel_rfl
/- 118 -/
def v118_4 : List Pos := [p1, p2, p3, p4]
def c118_4 : XC := (.seq (.ops true (XL.of [.L p151 (.cells 5 q1) .v, .L p153 (.cells 7 q4) .v, .o ⟨(some p152), (.call (.fn 60) [q151, (.c (.str [59]))]), none, [⟨none, .cells 7 q4, p153⟩]⟩ .v, .o ⟨none, (.e (.stores 5 q2 q152)), none, [⟨none, .cells 7 q4, p153⟩]⟩ .v, .ss 7 q3 q153])) (.s .ret))
def v118_3 : List Pos := [p1, p2, p3, p4, p5]
def c118_3 : XC := (.sj v118_4 (.sO [.L p140 (.cells 5 q1) .v, .cl p141 54 [q140, (.c (.str [59]))] .b, .P p142 (.un .not q141) .b] (.cond q142 (.sO [.L p144 (.cells 5 q1) .v, .cl p145 62 [q144] .v, .mv p143 q145 .v, .P p146 (.ext q143 0) .v, .P p147 (.ext q143 1) .v, .ss 5 q1 q146, .ss 8 q5 q147] (.s (.oX [.L p148 (.cells 8 q5) .v, .al p149 (.bsl [(kI 0), (.str []), (.str []), (.int .u32 (.ofNat 0)), (.int .u64 (.ofNat 0)), .nils, (kI 0), (kI 0)] 1 [⟨0, 8, q148⟩]), .fa p150 1 q4, .st q150 q149]))) (.s .skip))) c118_4)
def v118_2 : List Pos := [p1, p2, p3, p4, p5]
def c118_2 : XC := (.sO [.fa p134 0 q4, .st q134 (ci 7)] (.sj v118_3 (.sO [.L p135 (.cells 5 q1) .v, .cl p136 54 [q135, (.c (.str [114, 101, 116, 117, 114, 110]))] .b] (.cond q136 (.sO [.fa p137 0 q4, .st q137 (ci 4)] (.s (.oX [.L p138 (.cells 5 q1) .v, .cl p139 55 [q138] .v, .ss 5 q1 q139]))) (.s .skip))) c118_3))
def v118_6 : List Pos := [p1, p2, p3, p4]
def c118_6 : XC := (.seq (.ops true (XL.of [.L p130 (.cells 5 q1) .v, .L p133 (.cells 7 q4) .v, .o ⟨(some p131), (.call (.fn 55) [q130]), none, [⟨none, .cells 7 q4, p133⟩]⟩ .v, .o ⟨(some p132), (.call (.fn 60) [q131, (.c (.str [59]))]), none, [⟨none, .cells 7 q4, p133⟩]⟩ .v, .o ⟨none, (.e (.stores 5 q2 q132)), none, [⟨none, .cells 7 q4, p133⟩]⟩ .v, .ss 7 q3 q133])) (.s .ret))
def c118_7 : XC := (.cond q125 (.sO [.fa p126 0 q4, .st q126 (ci 5)] (.sj v118_6 (.sO [.L p127 (.cells 5 q1) .v, .cl p128 54 [q127, (.c (.str [99, 111, 110, 116, 105, 110, 117, 101]))] .b] (.cond q128 (.s (.oX [.fa p129 0 q4, .st q129 (ci 6)])) (.s .skip))) c118_6)) (.s .skip))
def l118_5 : XL := (XL.of [])
def v118_1 : List Pos := [p1, p2, p3, p4, p5]
def c118_1 : XC := (.sj v118_2 (.opq false (XL.pre [.L p120 (.cells 5 q1) .v, .cl p121 54 [q120, (.c (.str [98, 114, 101, 97, 107]))] .b, .mv p122 q121 .b, .sp p122, .o ⟨(some p123), (.l (.cells 5 q1)), (some (p122, false)), []⟩ .v, .o ⟨(some p124), (.call (.fn 54) [q123, (.c (.str [99, 111, 110, 116, 105, 110, 117, 101]))]), (some (p122, false)), []⟩ .b, .P p125 (.pick q122 (cb true) q124) .b, .jn p122 [p1, p2, p3, p4, p5, p125]] l118_5) c118_7) c118_2)
def v118_10 : List Pos := [p1, p2, p3, p4]
def c118_10 : XC := (.seq (.ops true (XL.of [.L p117 (.cells 5 q1) .v, .L p119 (.cells 7 q4) .v, .o ⟨(some p118), (.call (.fn 60) [q117, (.c (.str [59]))]), none, [⟨none, .cells 7 q4, p119⟩]⟩ .v, .o ⟨none, (.e (.stores 5 q2 q118)), none, [⟨none, .cells 7 q4, p119⟩]⟩ .v, .ss 7 q3 q119])) (.s .ret))
def c118_11 : XC := (.cond q86 (.sO [.fa p87 0 q4, .st q87 (ci 8)] (.sO [.L p89 (.cells 5 q1) .v, .cl p90 56 [q89] .v, .mv p88 q90 .v, .P p91 (.ext q88 0) .v, .P p92 (.ext q88 1) tI, .ss 5 q1 q91, .fa p93 4 q4, .st q93 q92] (.sO [.L p95 (.cells 5 q1) .v, .cl p96 57 [q95, (ci 1)] .v, .mv p94 q96 .v, .P p97 (.ext q94 0) .v, .P p98 (.ext q94 1) .s, .ss 5 q1 q97, .fa p99 3 q4, .st q99 q98] (.sO [.L p101 (.cells 5 q1) .v, .cl p102 61 [q101] .v, .mv p100 q102 .v, .P p103 (.ext q100 0) .v, .P p104 (.ext q100 1) tI, .ss 5 q1 q103, .fa p105 5 q4, .st q105 q104] (.sj v118_10 (.sO [.L p106 (.cells 5 q1) .v, .cl p107 54 [q106, (.c (.str [61]))] .b] (.cond q107 (.sO [.L p109 (.cells 5 q1) .v, .cl p110 55 [q109] .v, .cl p111 62 [q110] .v, .mv p108 q111 .v, .P p112 (.ext q108 0) .v, .P p113 (.ext q108 1) .v, .ss 5 q1 q112, .ss 8 q5 q113] (.s (.oX [.L p114 (.cells 8 q5) .v, .al p115 (.bsl [(kI 0), (.str []), (.str []), (.int .u32 (.ofNat 0)), (.int .u64 (.ofNat 0)), .nils, (kI 0), (kI 0)] 1 [⟨0, 8, q114⟩]), .fa p116 1 q4, .st q116 q115]))) (.s .skip))) c118_10))))) (.s .skip))
def l118_9 : XL := (XL.of [])
def l118_8 : XL := (XL.pre [.mv p83 q82 .b, .sp p83, .o ⟨(some p84), (.l (.cells 5 q1)), (some (p83, false)), []⟩ .v, .o ⟨(some p85), (.call (.fn 54) [q84, (.c (.str [118, 111, 105, 100]))]), (some (p83, false)), []⟩ .b, .P p86 (.pick q83 (cb true) q85) .b, .jn p83 [p1, p2, p3, p4, p5, p86]] l118_9)
def v118_0 : List Pos := [p1, p2, p3, p4, p5]
def c118_0 : XC := (.sj v118_1 (.opq false (XL.pre [.L p77 (.cells 5 q1) .v, .cl p78 54 [q77, (.c (.str [105, 110, 116]))] .b, .mv p79 q78 .b, .sp p79, .o ⟨(some p80), (.l (.cells 5 q1)), (some (p79, false)), []⟩ .v, .o ⟨(some p81), (.call (.fn 54) [q80, (.c (.str [100, 111, 117, 98, 108, 101]))]), (some (p79, false)), []⟩ .b, .P p82 (.pick q79 (cb true) q81) .b, .jn p79 [p1, p2, p3, p4, p5, p82]] l118_8) c118_11) c118_1)
def v118_14 : List Pos := [p1, p2, p3, p4]
def c118_14 : XC := (.seq (.ops true (XL.of [.L p75 (.cells 5 q1) .v, .L p76 (.cells 7 q4) .v, .o ⟨none, (.e (.stores 5 q2 q75)), none, [⟨none, .cells 7 q4, p76⟩]⟩ .v, .ss 7 q3 q76])) (.s .ret))
def c118_16 : XC := (.cond q62 (.sO [.L p64 (.cells 5 q1) .v, .cl p65 55 [q64] .v, .cl p66 97 [q65] .v, .mv p63 q66 .v, .P p67 (.ext q63 0) .v, .P p68 (.ext q63 1) .v, .ss 5 q1 q67, .ss 7 q6 q68] (.s (.oX [.fa p69 2 q4, .ld p70 q69 .v, .L p71 (.cells 7 q6) .v, .al p72 (.bsl [(kI 0), .nils, .nils, (.str []), (kI 0), (kI 0), (kI 0)] 1 [⟨0, 7, q71⟩]), .o ⟨(some p73), (.e (.app 7 96 q70 q72)), none, []⟩ .v, .fa p74 2 q4, .st q74 q73]))) (.s .skip))
def l118_15 : XL := (XL.of [])
def v118_13 : List Pos := [p1, p2, p3, p4, p5, p6]
def c118_13 : XC := (.sO [.L p35 (.cells 5 q1) .v, .cl p36 55 [q35] .v, .cl p37 60 [q36, (.c (.str [40]))] .v, .cl p38 62 [q37] .v, .mv p34 q38 .v, .P p39 (.ext q34 0) .v, .P p40 (.ext q34 1) .v, .ss 5 q1 q39, .ss 8 q5 q40] (.sO [.L p41 (.cells 8 q5) .v, .al p42 (.bsl [(kI 0), (.str []), (.str []), (.int .u32 (.ofNat 0)), (.int .u64 (.ofNat 0)), .nils, (kI 0), (kI 0)] 1 [⟨0, 8, q41⟩]), .fa p43 1 q4, .st q43 q42] (.sO [.L p45 (.cells 5 q1) .v, .cl p46 60 [q45, (.c (.str [41]))] .v, .cl p47 97 [q46] .v, .mv p44 q47 .v, .P p48 (.ext q44 0) .v, .P p49 (.ext q44 1) .v, .ss 5 q1 q48, .ss 7 q6 q49] (.sO [.fa p50 2 q4, .ld p51 q50 .v, .L p52 (.cells 7 q6) .v, .al p53 (.bsl [(kI 0), .nils, .nils, (.str []), (kI 0), (kI 0), (kI 0)] 1 [⟨0, 7, q52⟩]), .o ⟨(some p54), (.e (.app 7 96 q51 q53)), none, []⟩ .v, .fa p55 2 q4, .st q55 q54] (.sj v118_14 (.opq false (XL.pre [.fa p56 0 q4, .ld p57 q56 tI, .bn p58 .eql q57 (ci 2) .b, .mv p59 q58 .b, .sp p59, .o ⟨(some p60), (.l (.cells 5 q1)), (some (p59, true)), []⟩ .v, .o ⟨(some p61), (.call (.fn 54) [q60, (.c (.str [101, 108, 115, 101]))]), (some (p59, true)), []⟩ .b, .P p62 (.pick q59 q61 (cb false)) .b, .jn p59 [p1, p2, p3, p4, p6, p62]] l118_15) c118_16) c118_14)))))
def c118_17 : XC := (.cond q29 (.sO [.fa p30 0 q4, .st q30 (ci 2)] (.sj v118_13 (.sO [.L p31 (.cells 5 q1) .v, .cl p32 54 [q31, (.c (.str [119, 104, 105, 108, 101]))] .b] (.cond q32 (.s (.oX [.fa p33 0 q4, .st q33 (ci 3)])) (.s .skip))) c118_13)) (.s .skip))
def l118_12 : XL := (XL.of [])
def c118_e : XC := (.sO [.al p1 (.box q0), .al p2 (.new [.nils, (kI 0), (kI 0), (kI 0), (kI 0)]), .al p3 (.new [(kI 0), .nils, .nils, (.str []), (kI 0), (kI 0), (kI 0)])] (.sO [.L p7 (.cells 5 q1) .v, .cl p8 28 [q7] .v, .P p9 (.field 2 1 false q8) tI, .P p10 (.build [(kI 0), .nils, .nils, (.str []), (kI 0), (kI 0), (kI 0)] [⟨6, 1, q9⟩]) .v, .al p4 (.new [(kI 0), .nils, .nils, (.str []), (kI 0), (kI 0), (kI 0)]), .ss 7 q4 q10] (.sO [.P p11 (.build [(kI 0), (.str []), (.str []), (.int .u32 (.ofNat 0)), (.int .u64 (.ofNat 0)), .nils, (kI 0), (kI 0)] []) .v, .al p5 (.new [(kI 0), (.str []), (.str []), (.int .u32 (.ofNat 0)), (.int .u64 (.ofNat 0)), .nils, (kI 0), (kI 0)]), .ss 8 q5 q11] (.sO [.P p12 (.build [(kI 0), .nils, .nils, (.str []), (kI 0), (kI 0), (kI 0)] []) .v, .al p6 (.new [(kI 0), .nils, .nils, (.str []), (kI 0), (kI 0), (kI 0)]), .ss 7 q6 q12] (.seq (.seq (.oX [.fa p13 3 q1, .ld p14 q13 tI, .bn p15 .neq q14 (ci 0) .b]) (.cond q15 (.seq (.ops true (XL.of [.L p16 (.cells 5 q1) .v, .L p17 (.cells 7 q4) .v, .o ⟨none, (.e (.stores 5 q2 q16)), none, [⟨none, .cells 7 q4, p17⟩]⟩ .v, .ss 7 q3 q17])) .ret) .skip)) (.seq (.seq (.oX [.L p18 (.cells 5 q1) .v, .cl p19 54 [q18, (.c (.str [123]))] .b]) (.cond q19 (.seq (.oX [.L p20 (.cells 5 q1) .v, .cl p21 59 [q20] .v, .P p22 (.ext q21 0) .v, .P p23 (.ext q21 1) .v, .ss 5 q2 q22, .ss 7 q3 q23]) .ret) .skip)) (.sj v118_0 (.opq false (XL.pre [.L p24 (.cells 5 q1) .v, .cl p25 54 [q24, (.c (.str [105, 102]))] .b, .mv p26 q25 .b, .sp p26, .o ⟨(some p27), (.l (.cells 5 q1)), (some (p26, false)), []⟩ .v, .o ⟨(some p28), (.call (.fn 54) [q27, (.c (.str [119, 104, 105, 108, 101]))]), (some (p26, false)), []⟩ .b, .P p29 (.pick q26 (cb true) q28) .b, .jn p26 [p1, p2, p3, p4, p5, p6, p29]] l118_12) c118_17) c118_0)))))))
def x118 : XFn := ⟨[.v], false, [(.cells 5 p2), (.cells 7 p3)], c118_e⟩
def e118_4 (k t1 t2 t3 t4 h) := kN k [(p1, t1), (p2, t2), (p3, t3), (p4, t4)] h
def S118_4 (D : CallD) (m : Nat) (t1 t2 t3 t4 : AV) (h : HP) : Res2 :=
 cellsC 5 t1 h fun t151 =>
 cellsC 7 t4 h fun t153 =>
 cal D 60 [t151, (vS ([59] : LN))] h fun t152 h36 =>
 br (again [⟨none, .cells 7 q4, p153⟩] (mkT [(p153, t153), (p4, t4)]) h36) (
 stsC 5 t2 t152 h36 fun h37 =>
 br (againE (.stores 5 q2 q152) [⟨none, .cells 7 q4, p153⟩] (mkT [(p2, t2), (p153, t153), (p4, t4)]) h37) (
 stsC 7 t3 t153 h37 fun h38 =>
 cellsC 5 t2 h38 fun t2a =>
 cellsC 7 t3 h38 fun t3a =>
 some (.ret (.tup [t2a, t3a]) h38, .no)) none) none
def e118_3 (k t1 t2 t3 t4 t5 h) := kN k [(p1, t1), (p2, t2), (p3, t3), (p4, t4), (p5, t5)] h
def S118_3 (D : CallD) (m : Nat) (t1 t2 t3 t4 t5 : AV) (h : HP) : Res2 :=
 cellsC 5 t1 h fun t140 =>
 cal D 54 [t140, (vS ([59] : LN))] h fun t141 h39 =>
 asB t141 fun t141a =>
 let t142 := !t141a
 br t142 (
 cellsC 5 t1 h39 fun t144 =>
 cal D 62 [t144] h39 fun t145 h40 =>
 extC t145 0 fun t146 =>
 extC t145 1 fun t147 =>
 stsC 5 t1 t146 h40 fun h41 =>
 stsC 8 t5 t147 h41 fun h42 =>
 cellsC 8 t5 h42 fun t148 =>
 obQ (evA (.bsl [(kI 0), (.str []), (.str []), (.int .u32 (.ofNat 0)), (.int .u64 (.ofNat 0)), .nils, (kI 0), (kI 0)] 1 [⟨0, 8, (.c t148)⟩]) .leaf) fun r43 =>
 let t149 := vkV r43.2 (HP.nxQ h42)
 let h44 := HP.newQ h42 r43.1
 faC 1 t4 fun t150 =>
 stoC t150 t149 h44 fun h45 =>
 S118_4 D m t1 t2 t3 t4 h45) (
 S118_4 D m t1 t2 t3 t4 h39)
def e118_2 (k t1 t2 t3 t4 t5 h) := kN k [(p1, t1), (p2, t2), (p3, t3), (p4, t4), (p5, t5)] h
def S118_2 (D : CallD) (m : Nat) (t1 t2 t3 t4 t5 : AV) (h : HP) : Res2 :=
 faC 0 t4 fun t134 =>
 stoC t134 (vI (Int.ofNat 7)) h fun h35 =>
 cellsC 5 t1 h35 fun t135 =>
 cal D 54 [t135, (vS ([114, 101, 116, 117, 114, 110] : LN))] h35 fun t136 h46 =>
 asB t136 fun t136a =>
 br t136a (
 faC 0 t4 fun t137 =>
 stoC t137 (vI (Int.ofNat 4)) h46 fun h47 =>
 cellsC 5 t1 h47 fun t138 =>
 cal D 55 [t138] h47 fun t139 h48 =>
 stsC 5 t1 t139 h48 fun h49 =>
 S118_3 D m t1 t2 t3 t4 t5 h49) (
 S118_3 D m t1 t2 t3 t4 t5 h46)
def e118_6 (k t1 t2 t3 t4 h) := kN k [(p1, t1), (p2, t2), (p3, t3), (p4, t4)] h
def S118_6 (D : CallD) (m : Nat) (t1 t2 t3 t4 : AV) (h : HP) : Res2 :=
 cellsC 5 t1 h fun t130 =>
 cellsC 7 t4 h fun t133 =>
 cal D 55 [t130] h fun t131 h52 =>
 br (again [⟨none, .cells 7 q4, p133⟩] (mkT [(p133, t133), (p4, t4)]) h52) (
 cal D 60 [t131, (vS ([59] : LN))] h52 fun t132 h53 =>
 br (again [⟨none, .cells 7 q4, p133⟩] (mkT [(p133, t133), (p4, t4)]) h53) (
 stsC 5 t2 t132 h53 fun h54 =>
 br (againE (.stores 5 q2 q132) [⟨none, .cells 7 q4, p133⟩] (mkT [(p2, t2), (p133, t133), (p4, t4)]) h54) (
 stsC 7 t3 t133 h54 fun h55 =>
 cellsC 5 t2 h55 fun t2a =>
 cellsC 7 t3 h55 fun t3a =>
 some (.ret (.tup [t2a, t3a]) h55, .no)) none) none) none
def e118_5 (k t1 t2 t3 t4 t5 t125 h) := kN k [(p1, t1), (p2, t2), (p3, t3), (p4, t4), (p5, t5), (p125, (vB t125))] h
def S118_5 (D : CallD) (m : Nat) (t1 t2 t3 t4 t5 : AV) (t125 : Bool) (h : HP) : Res2 :=
 br t125 (
 faC 0 t4 fun t126 =>
 stoC t126 (vI (Int.ofNat 5)) h fun h51 =>
 cellsC 5 t1 h51 fun t127 =>
 cal D 54 [t127, (vS ([99, 111, 110, 116, 105, 110, 117, 101] : LN))] h51 fun t128 h56 =>
 asB t128 fun t128a =>
 br t128a (
 faC 0 t4 fun t129 =>
 stoC t129 (vI (Int.ofNat 6)) h56 fun h57 =>
 S118_6 D m t1 t2 t3 t4 h57) (
 S118_6 D m t1 t2 t3 t4 h56)) (
 S118_2 D m t1 t2 t3 t4 t5 h)
def e118_1 (k t1 t2 t3 t4 t5 h) := kN k [(p1, t1), (p2, t2), (p3, t3), (p4, t4), (p5, t5)] h
def S118_1 (D : CallD) (m : Nat) (t1 t2 t3 t4 t5 : AV) (h : HP) : Res2 :=
 cellsC 5 t1 h fun t120 =>
 cal D 54 [t120, (vS ([98, 114, 101, 97, 107] : LN))] h fun t121 h50 =>
 asB t121 fun t121a =>
 br t121a (
 S118_5 D m t1 t2 t3 t4 t5 true h50) (
 cellsC 5 t1 h50 fun t123 =>
 cal D 54 [t123, (vS ([99, 111, 110, 116, 105, 110, 117, 101] : LN))] h50 fun t124 h58 =>
 asB t124 fun t124a =>
 S118_5 D m t1 t2 t3 t4 t5 t124a h58)
def e118_10 (k t1 t2 t3 t4 h) := kN k [(p1, t1), (p2, t2), (p3, t3), (p4, t4)] h
def S118_10 (D : CallD) (m : Nat) (t1 t2 t3 t4 : AV) (h : HP) : Res2 :=
 cellsC 5 t1 h fun t117 =>
 cellsC 7 t4 h fun t119 =>
 cal D 60 [t117, (vS ([59] : LN))] h fun t118 h70 =>
 br (again [⟨none, .cells 7 q4, p119⟩] (mkT [(p119, t119), (p4, t4)]) h70) (
 stsC 5 t2 t118 h70 fun h71 =>
 br (againE (.stores 5 q2 q118) [⟨none, .cells 7 q4, p119⟩] (mkT [(p2, t2), (p119, t119), (p4, t4)]) h71) (
 stsC 7 t3 t119 h71 fun h72 =>
 cellsC 5 t2 h72 fun t2a =>
 cellsC 7 t3 h72 fun t3a =>
 some (.ret (.tup [t2a, t3a]) h72, .no)) none) none
def e118_9 (k t1 t2 t3 t4 t5 t86 h) := kN k [(p1, t1), (p2, t2), (p3, t3), (p4, t4), (p5, t5), (p86, (vB t86))] h
def S118_9 (D : CallD) (m : Nat) (t1 t2 t3 t4 t5 : AV) (t86 : Bool) (h : HP) : Res2 :=
 br t86 (
 faC 0 t4 fun t87 =>
 stoC t87 (vI (Int.ofNat 8)) h fun h60 =>
 cellsC 5 t1 h60 fun t89 =>
 cal D 56 [t89] h60 fun t90 h61 =>
 extC t90 0 fun t91 =>
 extC t90 1 fun vt92 => asI .i64 vt92 fun t92 =>
 stsC 5 t1 t91 h61 fun h62 =>
 faC 4 t4 fun t93 =>
 stoC t93 (vI t92) h62 fun h63 =>
 cellsC 5 t1 h63 fun t95 =>
 cal D 57 [t95, (vI (Int.ofNat 1))] h63 fun t96 h64 =>
 extC t96 0 fun t97 =>
 extC t96 1 fun vt98 => asS vt98 fun t98 =>
 stsC 5 t1 t97 h64 fun h65 =>
 faC 3 t4 fun t99 =>
 stoC t99 (vS t98) h65 fun h66 =>
 cellsC 5 t1 h66 fun t101 =>
 cal D 61 [t101] h66 fun t102 h67 =>
 extC t102 0 fun t103 =>
 extC t102 1 fun vt104 => asI .i64 vt104 fun t104 =>
 stsC 5 t1 t103 h67 fun h68 =>
 faC 5 t4 fun t105 =>
 stoC t105 (vI t104) h68 fun h69 =>
 cellsC 5 t1 h69 fun t106 =>
 cal D 54 [t106, (vS ([61] : LN))] h69 fun t107 h73 =>
 asB t107 fun t107a =>
 br t107a (
 cellsC 5 t1 h73 fun t109 =>
 cal D 55 [t109] h73 fun t110 h74 =>
 cal D 62 [t110] h74 fun t111 h75 =>
 extC t111 0 fun t112 =>
 extC t111 1 fun t113 =>
 stsC 5 t1 t112 h75 fun h76 =>
 stsC 8 t5 t113 h76 fun h77 =>
 cellsC 8 t5 h77 fun t114 =>
 obQ (evA (.bsl [(kI 0), (.str []), (.str []), (.int .u32 (.ofNat 0)), (.int .u64 (.ofNat 0)), .nils, (kI 0), (kI 0)] 1 [⟨0, 8, (.c t114)⟩]) .leaf) fun r78 =>
 let t115 := vkV r78.2 (HP.nxQ h77)
 let h79 := HP.newQ h77 r78.1
 faC 1 t4 fun t116 =>
 stoC t116 t115 h79 fun h80 =>
 S118_10 D m t1 t2 t3 t4 h80) (
 S118_10 D m t1 t2 t3 t4 h73)) (
 S118_1 D m t1 t2 t3 t4 t5 h)
def e118_8 (k t1 t2 t3 t4 t5 t82 h) := kN k [(p1, t1), (p2, t2), (p3, t3), (p4, t4), (p5, t5), (p82, (vB t82))] h
def S118_8 (D : CallD) (m : Nat) (t1 t2 t3 t4 t5 : AV) (t82 : Bool) (h : HP) : Res2 :=
 br t82 (
 S118_9 D m t1 t2 t3 t4 t5 true h) (
 cellsC 5 t1 h fun t84 =>
 cal D 54 [t84, (vS ([118, 111, 105, 100] : LN))] h fun t85 h81 =>
 asB t85 fun t85a =>
 S118_9 D m t1 t2 t3 t4 t5 t85a h81)
def e118_0 (k t1 t2 t3 t4 t5 h) := kN k [(p1, t1), (p2, t2), (p3, t3), (p4, t4), (p5, t5)] h
def S118_0 (D : CallD) (m : Nat) (t1 t2 t3 t4 t5 : AV) (h : HP) : Res2 :=
 cellsC 5 t1 h fun t77 =>
 cal D 54 [t77, (vS ([105, 110, 116] : LN))] h fun t78 h59 =>
 asB t78 fun t78a =>
 br t78a (
 S118_8 D m t1 t2 t3 t4 t5 true h59) (
 cellsC 5 t1 h59 fun t80 =>
 cal D 54 [t80, (vS ([100, 111, 117, 98, 108, 101] : LN))] h59 fun t81 h82 =>
 asB t81 fun t81a =>
 S118_8 D m t1 t2 t3 t4 t5 t81a h82)
def e118_14 (k t1 t2 t3 t4 h) := kN k [(p1, t1), (p2, t2), (p3, t3), (p4, t4)] h
def S118_14 (D : CallD) (m : Nat) (t1 t2 t3 t4 : AV) (h : HP) : Res2 :=
 cellsC 5 t1 h fun t75 =>
 cellsC 7 t4 h fun t76 =>
 stsC 5 t2 t75 h fun h101 =>
 br (againE (.stores 5 q2 q75) [⟨none, .cells 7 q4, p76⟩] (mkT [(p2, t2), (p76, t76), (p4, t4)]) h101) (
 stsC 7 t3 t76 h101 fun h102 =>
 cellsC 5 t2 h102 fun t2a =>
 cellsC 7 t3 h102 fun t3a =>
 some (.ret (.tup [t2a, t3a]) h102, .no)) none
def e118_15 (k t1 t2 t3 t4 t6 t62 h) := kN k [(p1, t1), (p2, t2), (p3, t3), (p4, t4), (p6, t6), (p62, (vB t62))] h
def S118_15 (D : CallD) (m : Nat) (t1 t2 t3 t4 t6 : AV) (t62 : Bool) (h : HP) : Res2 :=
 br t62 (
 cellsC 5 t1 h fun t64 =>
 cal D 55 [t64] h fun t65 h104 =>
 cal D 97 [t65] h104 fun t66 h105 =>
 extC t66 0 fun t67 =>
 extC t66 1 fun t68 =>
 stsC 5 t1 t67 h105 fun h106 =>
 stsC 7 t6 t68 h106 fun h107 =>
 faC 2 t4 fun t69 =>
 cellC t69 h107 fun t70 =>
 cellsC 7 t6 h107 fun t71 =>
 obQ (evA (.bsl [(kI 0), .nils, .nils, (.str []), (kI 0), (kI 0), (kI 0)] 1 [⟨0, 7, (.c t71)⟩]) .leaf) fun r108 =>
 let t72 := vkV r108.2 (HP.nxQ h107)
 let h109 := HP.newQ h107 r108.1
 eff (.app 7 96 (.c t70) (.c t72)) h109 fun t73 h110 =>
 faC 2 t4 fun t74 =>
 stoC t74 t73 h110 fun h111 =>
 S118_14 D m t1 t2 t3 t4 h111) (
 S118_14 D m t1 t2 t3 t4 h)
def e118_13 (k t1 t2 t3 t4 t5 t6 h) := kN k [(p1, t1), (p2, t2), (p3, t3), (p4, t4), (p5, t5), (p6, t6)] h
def S118_13 (D : CallD) (m : Nat) (t1 t2 t3 t4 t5 t6 : AV) (h : HP) : Res2 :=
 cellsC 5 t1 h fun t35 =>
 cal D 55 [t35] h fun t36 h85 =>
 cal D 60 [t36, (vS ([40] : LN))] h85 fun t37 h86 =>
 cal D 62 [t37] h86 fun t38 h87 =>
 extC t38 0 fun t39 =>
 extC t38 1 fun t40 =>
 stsC 5 t1 t39 h87 fun h88 =>
 stsC 8 t5 t40 h88 fun h89 =>
 cellsC 8 t5 h89 fun t41 =>
 obQ (evA (.bsl [(kI 0), (.str []), (.str []), (.int .u32 (.ofNat 0)), (.int .u64 (.ofNat 0)), .nils, (kI 0), (kI 0)] 1 [⟨0, 8, (.c t41)⟩]) .leaf) fun r90 =>
 let t42 := vkV r90.2 (HP.nxQ h89)
 let h91 := HP.newQ h89 r90.1
 faC 1 t4 fun t43 =>
 stoC t43 t42 h91 fun h92 =>
 cellsC 5 t1 h92 fun t45 =>
 cal D 60 [t45, (vS ([41] : LN))] h92 fun t46 h93 =>
 cal D 97 [t46] h93 fun t47 h94 =>
 extC t47 0 fun t48 =>
 extC t47 1 fun t49 =>
 stsC 5 t1 t48 h94 fun h95 =>
 stsC 7 t6 t49 h95 fun h96 =>
 faC 2 t4 fun t50 =>
 cellC t50 h96 fun t51 =>
 cellsC 7 t6 h96 fun t52 =>
 obQ (evA (.bsl [(kI 0), .nils, .nils, (.str []), (kI 0), (kI 0), (kI 0)] 1 [⟨0, 7, (.c t52)⟩]) .leaf) fun r97 =>
 let t53 := vkV r97.2 (HP.nxQ h96)
 let h98 := HP.newQ h96 r97.1
 eff (.app 7 96 (.c t51) (.c t53)) h98 fun t54 h99 =>
 faC 2 t4 fun t55 =>
 stoC t55 t54 h99 fun h100 =>
 faC 0 t4 fun t56 =>
 ldI t56 h100 fun t57 =>
 let t58 := eqQ t57 (Int.ofNat 2)
 br t58 (
 cellsC 5 t1 h100 fun t60 =>
 cal D 54 [t60, (vS ([101, 108, 115, 101] : LN))] h100 fun t61 h103 =>
 asB t61 fun t61a =>
 S118_15 D m t1 t2 t3 t4 t6 t61a h103) (
 S118_15 D m t1 t2 t3 t4 t6 false h100)
def e118_12 (k t1 t2 t3 t4 t5 t6 t29 h) := kN k [(p1, t1), (p2, t2), (p3, t3), (p4, t4), (p5, t5), (p6, t6), (p29, (vB t29))] h
def S118_12 (D : CallD) (m : Nat) (t1 t2 t3 t4 t5 t6 : AV) (t29 : Bool) (h : HP) : Res2 :=
 br t29 (
 faC 0 t4 fun t30 =>
 stoC t30 (vI (Int.ofNat 2)) h fun h84 =>
 cellsC 5 t1 h84 fun t31 =>
 cal D 54 [t31, (vS ([119, 104, 105, 108, 101] : LN))] h84 fun t32 h112 =>
 asB t32 fun t32a =>
 br t32a (
 faC 0 t4 fun t33 =>
 stoC t33 (vI (Int.ofNat 3)) h112 fun h113 =>
 S118_13 D m t1 t2 t3 t4 t5 t6 h113) (
 S118_13 D m t1 t2 t3 t4 t5 t6 h112)) (
 S118_0 D m t1 t2 t3 t4 t5 h)
def e118_18 (k t0 h) := kN k [(p0, t0)] h
def S118_18 (D : CallD) (m : Nat) (t0 : AV) (h : HP) : Res2 :=
 let t1 := AV.ptr (HP.nxQ h) 0
 let h19 := HP.newQ h (.cells true (AV.cells t0))
 let t2 := AV.ptr (HP.nxQ h19) 0
 let h20 := HP.newQ h19 (.cells true [.nils, (kI 0), (kI 0), (kI 0), (kI 0)])
 let t3 := AV.ptr (HP.nxQ h20) 0
 let h21 := HP.newQ h20 (.cells true [(kI 0), .nils, .nils, (.str []), (kI 0), (kI 0), (kI 0)])
 cellsC 5 t1 h21 fun t7 =>
 cal D 28 [t7] h21 fun t8 h22 =>
 fldC 2 1 false t8 fun vt9 => asI .i64 vt9 fun t9 =>
 let t10 := (AV.agg [(vI (Int.ofNat 0)), (.nils : AV), (.nils : AV), (vS ([] : LN)), (vI (Int.ofNat 0)), (vI (Int.ofNat 0)), (vI t9)])
 let t4 := AV.ptr (HP.nxQ h22) 0
 let h23 := HP.newQ h22 (.cells true [(kI 0), .nils, .nils, (.str []), (kI 0), (kI 0), (kI 0)])
 stsC 7 t4 t10 h23 fun h24 =>
 let t11 := (AV.agg [(vI (Int.ofNat 0)), (vS ([] : LN)), (vS ([] : LN)), (vW (Int.ofNat 0)), (AV.int .u64 (Int.ofNat 0)), (.nils : AV), (vI (Int.ofNat 0)), (vI (Int.ofNat 0))])
 let t5 := AV.ptr (HP.nxQ h24) 0
 let h25 := HP.newQ h24 (.cells true [(kI 0), (.str []), (.str []), (.int .u32 (.ofNat 0)), (.int .u64 (.ofNat 0)), .nils, (kI 0), (kI 0)])
 stsC 8 t5 t11 h25 fun h26 =>
 let t12 := (AV.agg [(vI (Int.ofNat 0)), (.nils : AV), (.nils : AV), (vS ([] : LN)), (vI (Int.ofNat 0)), (vI (Int.ofNat 0)), (vI (Int.ofNat 0))])
 let t6 := AV.ptr (HP.nxQ h26) 0
 let h27 := HP.newQ h26 (.cells true [(kI 0), .nils, .nils, (.str []), (kI 0), (kI 0), (kI 0)])
 stsC 7 t6 t12 h27 fun h28 =>
 let t13 := (AV.ptr (HP.nxQ h) (Nat.add 0 3))
 ldI t13 h28 fun t14 =>
 let t15 := notQ (eqQ t14 (Int.ofNat 0))
 br t15 (
 cellsC 5 t1 h28 fun t16 =>
 cellsC 7 t4 h28 fun t17 =>
 stsC 5 t2 t16 h28 fun h29 =>
 br (againE (.stores 5 q2 q16) [⟨none, .cells 7 q4, p17⟩] (mkT [(p2, t2), (p17, t17), (p4, t4)]) h29) (
 stsC 7 t3 t17 h29 fun h30 =>
 cellsC 5 t2 h30 fun t2a =>
 cellsC 7 t3 h30 fun t3a =>
 some (.ret (.tup [t2a, t3a]) h30, .no)) none) (
 cellsC 5 t1 h28 fun t18 =>
 cal D 54 [t18, (vS ([123] : LN))] h28 fun t19 h31 =>
 asB t19 fun t19a =>
 br t19a (
 cellsC 5 t1 h31 fun t20 =>
 cal D 59 [t20] h31 fun t21 h32 =>
 extC t21 0 fun t22 =>
 extC t21 1 fun t23 =>
 stsC 5 t2 t22 h32 fun h33 =>
 stsC 7 t3 t23 h33 fun h34 =>
 cellsC 5 t2 h34 fun t2a =>
 cellsC 7 t3 h34 fun t3a =>
 some (.ret (.tup [t2a, t3a]) h34, .no)) (
 cellsC 5 t1 h31 fun t24 =>
 cal D 54 [t24, (vS ([105, 102] : LN))] h31 fun t25 h83 =>
 asB t25 fun t25a =>
 br t25a (
 S118_12 D m t1 t2 t3 t4 t5 t6 true h83) (
 cellsC 5 t1 h83 fun t27 =>
 cal D 54 [t27, (vS ([119, 104, 105, 108, 101] : LN))] h83 fun t28 h114 =>
 asB t28 fun t28a =>
 S118_12 D m t1 t2 t3 t4 t5 t6 t28a h114)))
def S118 : SFn := fun D m args h u => nou u <| popV args fun t0 args => endA args (S118_18 D m t0 h)
theorem T118_4 (hE : FX x118 D m E) : S118_4 D m = e118_4 (E c118_4 []) := by unfold S118_4; rw [hE c118_4]; kernel_rfl
theorem T118_3 (hE : FX x118 D m E) : S118_3 D m = e118_3 (E c118_3 []) := by unfold S118_3; rw [T118_4 hE, hE c118_3]; kernel_rfl
theorem T118_2 (hE : FX x118 D m E) : S118_2 D m = e118_2 (E c118_2 []) := by unfold S118_2; rw [T118_3 hE, hE c118_2]; kernel_rfl
theorem T118_6 (hE : FX x118 D m E) : S118_6 D m = e118_6 (E c118_6 [.sj v118_2 c118_2]) := by unfold S118_6; rw [hE c118_6]; kernel_rfl
theorem T118_5 (hE : FX x118 D m E) : S118_5 D m = e118_5 (E (.opq false l118_5 c118_7) [.sj v118_2 c118_2]) := by unfold S118_5; rw [T118_6 hE, T118_2 hE, hE (.opq false l118_5 c118_7)]; kernel_rfl
theorem T118_1 (hE : FX x118 D m E) : S118_1 D m = e118_1 (E c118_1 []) := by unfold S118_1; rw [T118_5 hE, hE c118_1]; kernel_rfl
theorem T118_10 (hE : FX x118 D m E) : S118_10 D m = e118_10 (E c118_10 [.sj v118_1 c118_1]) := by unfold S118_10; rw [hE c118_10]; kernel_rfl
theorem T118_9 (hE : FX x118 D m E) : S118_9 D m = e118_9 (E (.opq false l118_9 c118_11) [.sj v118_1 c118_1]) := by unfold S118_9; rw [T118_10 hE, T118_1 hE, hE (.opq false l118_9 c118_11)]; kernel_rfl
theorem T118_8 (hE : FX x118 D m E) : S118_8 D m = e118_8 (E (.opq false l118_8 c118_11) [.sj v118_1 c118_1]) := by unfold S118_8; rw [T118_9 hE, hE (.opq false l118_8 c118_11)]; kernel_rfl
theorem T118_0 (hE : FX x118 D m E) : S118_0 D m = e118_0 (E c118_0 []) := by unfold S118_0; rw [T118_8 hE, hE c118_0]; kernel_rfl
theorem T118_14 (hE : FX x118 D m E) : S118_14 D m = e118_14 (E c118_14 [.sj v118_0 c118_0]) := by unfold S118_14; rw [hE c118_14]; kernel_rfl
theorem T118_15 (hE : FX x118 D m E) : S118_15 D m = e118_15 (E (.opq false l118_15 c118_16) [.sj v118_14 c118_14, .sj v118_0 c118_0]) := by unfold S118_15; rw [T118_14 hE, hE (.opq false l118_15 c118_16)]; kernel_rfl
theorem T118_13 (hE : FX x118 D m E) : S118_13 D m = e118_13 (E c118_13 [.sj v118_0 c118_0]) := by unfold S118_13; rw [T118_15 hE, hE c118_13]; kernel_rfl
theorem T118_12 (hE : FX x118 D m E) : S118_12 D m = e118_12 (E (.opq false l118_12 c118_17) [.sj v118_0 c118_0]) := by unfold S118_12; rw [T118_13 hE, T118_0 hE, hE (.opq false l118_12 c118_17)]; kernel_rfl
theorem T118_18 (hE : FX x118 D m E) : S118_18 D m = e118_18 (E c118_e []) := by unfold S118_18; rw [T118_12 hE, hE c118_e]; kernel_rfl
theorem X118 : XTie S118 x118 := X_of fun D m E hE args h u => by unfold S118; rw [T118_18 hE]; kernel_rfl
/- 119 -/
def c119_e : XC := (.sO [.al p1 (.box q0), .al p2 (.new [.nils, (kI 0), (kI 0), (kI 0), (kI 0)]), .al p3 (.new [(kI 0), (.str []), (.str []), (.int .u32 (.ofNat 0)), (.int .u64 (.ofNat 0)), .nils, (kI 0), (kI 0)])] (.sO [.L p6 (.cells 5 q1) .v, .cl p7 100 [q6] .v, .cl p8 130 [q7] .v, .mv p5 q8 .v, .P p9 (.ext q5 0) .v, .P p10 (.ext q5 1) .v, .al p4 (.new [(kI 0), (.str []), (.str []), (.int .u32 (.ofNat 0)), (.int .u64 (.ofNat 0)), .nils, (kI 0), (kI 0)]), .ss 5 q1 q9, .ss 8 q4 q10] (.seq (.ops true (XL.of [.L p11 (.cells 5 q1) .v, .L p13 (.cells 8 q4) .v, .o ⟨(some p12), (.call (.fn 101) [q11]), none, [⟨none, .cells 8 q4, p13⟩]⟩ .v, .o ⟨none, (.e (.stores 5 q2 q12)), none, [⟨none, .cells 8 q4, p13⟩]⟩ .v, .ss 8 q3 q13])) (.s .ret))))
def x119 : XFn := ⟨[.v], false, [(.cells 5 p2), (.cells 8 p3)], c119_e⟩
def e119_0 (k t0 h) := kN k [(p0, t0)] h
def S119_0 (D : CallD) (m : Nat) (t0 : AV) (h : HP) : Res2 :=
 let t1 := AV.ptr (HP.nxQ h) 0
 let h1 := HP.newQ h (.cells true (AV.cells t0))
 let t2 := AV.ptr (HP.nxQ h1) 0
 let h2 := HP.newQ h1 (.cells true [.nils, (kI 0), (kI 0), (kI 0), (kI 0)])
 let t3 := AV.ptr (HP.nxQ h2) 0
 let h3 := HP.newQ h2 (.cells true [(kI 0), (.str []), (.str []), (.int .u32 (.ofNat 0)), (.int .u64 (.ofNat 0)), .nils, (kI 0), (kI 0)])
 cellsC 5 t1 h3 fun t6 =>
 cal D 100 [t6] h3 fun t7 h4 =>
 cal D 130 [t7] h4 fun t8 h5 =>
 extC t8 0 fun t9 =>
 extC t8 1 fun t10 =>
 let t4 := AV.ptr (HP.nxQ h5) 0
 let h6 := HP.newQ h5 (.cells true [(kI 0), (.str []), (.str []), (.int .u32 (.ofNat 0)), (.int .u64 (.ofNat 0)), .nils, (kI 0), (kI 0)])
 stsC 5 t1 t9 h6 fun h7 =>
 stsC 8 t4 t10 h7 fun h8 =>
 cellsC 5 t1 h8 fun t11 =>
 cellsC 8 t4 h8 fun t13 =>
 cal D 101 [t11] h8 fun t12 h9 =>
 br (again [⟨none, .cells 8 q4, p13⟩] (mkT [(p13, t13), (p4, t4)]) h9) (
 stsC 5 t2 t12 h9 fun h10 =>
 br (againE (.stores 5 q2 q12) [⟨none, .cells 8 q4, p13⟩] (mkT [(p2, t2), (p13, t13), (p4, t4)]) h10) (
 stsC 8 t3 t13 h10 fun h11 =>
 cellsC 5 t2 h11 fun t2a =>
 cellsC 8 t3 h11 fun t3a =>
 some (.ret (.tup [t2a, t3a]) h11, .no)) none) none
def S119 : SFn := fun D m args h u => nou u <| popV args fun t0 args => endA args (S119_0 D m t0 h)
theorem T119_0 (hE : FX x119 D m E) : S119_0 D m = e119_0 (E c119_e []) := by unfold S119_0; rw [hE c119_e]; kernel_rfl
theorem X119 : XTie S119 x119 := X_of fun D m E hE args h u => by unfold S119; rw [T119_0 hE]; kernel_rfl
/- 120 -/
def v120_0 : List Pos := []
def c120_0 : XC := (.sO [.mv p2 (.c (.int .i64 (.negSucc 0))) tI] (.s .ret))
def v120_5 : List Pos := [p28]
def c120_5 : XC := (.cond q28 (.sO [.mv p2 (ci 9) tI] (.s .ret)) (.s .skip))
def v120_4 : List Pos := [p3, p25]
def c120_4 : XC := (.cond q25 (.sO [.mv p2 (ci 8) tI] (.s .ret)) (.sj v120_5 (.sO [.bn p29 .eql q3 (.c (.str [42])) .b, .mv p28 q29 .b] (.cond q28 (.s .skip) (.sO [.bn p30 .eql q3 (.c (.str [47])) .b, .mv p28 q30 .b] (.cond q28 (.s .skip) (.s (.oX [.bn p31 .eql q3 (.c (.str [37])) .b, .mv p28 q31 .b])))))) c120_5))
def v120_3 : List Pos := [p3, p22]
def c120_3 : XC := (.cond q22 (.sO [.mv p2 (ci 7) tI] (.s .ret)) (.sj v120_4 (.sO [.bn p26 .eql q3 (.c (.str [43])) .b, .mv p25 q26 .b] (.cond q25 (.s .skip) (.s (.oX [.bn p27 .eql q3 (.c (.str [45])) .b, .mv p25 q27 .b])))) c120_4))
def v120_2 : List Pos := [p3, p17]
def c120_2 : XC := (.cond q17 (.sO [.mv p2 (ci 6) tI] (.s .ret)) (.sj v120_3 (.sO [.bn p23 .eql q3 (.c (.str [60, 60])) .b, .mv p22 q23 .b] (.cond q22 (.s .skip) (.s (.oX [.bn p24 .eql q3 (.c (.str [62, 62])) .b, .mv p22 q24 .b])))) c120_3))
def v120_1 : List Pos := [p3, p14]
def c120_1 : XC := (.cond q14 (.sO [.mv p2 (ci 5) tI] (.s .ret)) (.sj v120_2 (.sO [.bn p18 .eql q3 (.c (.str [60])) .b, .mv p17 q18 .b] (.cond q17 (.s .skip) (.sO [.bn p19 .eql q3 (.c (.str [60, 61])) .b, .mv p17 q19 .b] (.cond q17 (.s .skip) (.sO [.bn p20 .eql q3 (.c (.str [62])) .b, .mv p17 q20 .b] (.cond q17 (.s .skip) (.s (.oX [.bn p21 .eql q3 (.c (.str [62, 61])) .b, .mv p17 q21 .b])))))))) c120_2))
def c120_e : XC := (.sO [.mv p2 (ci 0) tI] (.sj v120_0 (.sO [.mv p3 q0 .s] (.block 0 (.sO [.bn p5 .eql q3 (.c (.str [124, 124])) .b, .mv p4 q5 .b] (.cond q4 (.sO [.mv p2 (ci 0) tI] (.s .ret)) (.sO [.bn p7 .eql q3 (.c (.str [38, 38])) .b, .mv p6 q7 .b] (.cond q6 (.sO [.mv p2 (ci 1) tI] (.s .ret)) (.sO [.bn p9 .eql q3 (.c (.str [124])) .b, .mv p8 q9 .b] (.cond q8 (.sO [.mv p2 (ci 2) tI] (.s .ret)) (.sO [.bn p11 .eql q3 (.c (.str [94])) .b, .mv p10 q11 .b] (.cond q10 (.sO [.mv p2 (ci 3) tI] (.s .ret)) (.sO [.bn p13 .eql q3 (.c (.str [38])) .b, .mv p12 q13 .b] (.cond q12 (.sO [.mv p2 (ci 4) tI] (.s .ret)) (.sj v120_1 (.sO [.bn p15 .eql q3 (.c (.str [61, 61])) .b, .mv p14 q15 .b] (.cond q14 (.s .skip) (.s (.oX [.bn p16 .eql q3 (.c (.str [33, 61])) .b, .mv p14 q16 .b])))) c120_1))))))))))))) c120_0))
def x120 : XFn := ⟨[.s], false, [(.tmp p2)], c120_e⟩
def e120_0 (k h) := kN k [] h
def S120_0 (D : CallD) (m : Nat) (h : HP) : Res2 :=
 some (.ret (vI (Int.negSucc 0)) h, .no)
def e120_5 (k t28 h) := kN k [(p28, (vB t28))] h
def S120_5 (D : CallD) (m : Nat) (t28 : Bool) (h : HP) : Res2 :=
 br t28 (
 some (.ret (vI (Int.ofNat 9)) h, .no)) (
 S120_0 D m h)
def e120_4 (k t3 t25 h) := kN k [(p3, (vS t3)), (p25, (vB t25))] h
def S120_4 (D : CallD) (m : Nat) (t3 : LN) (t25 : Bool) (h : HP) : Res2 :=
 br t25 (
 some (.ret (vI (Int.ofNat 8)) h, .no)) (
 let t29 := eqL t3 ([42] : LN)
 br t29 (
 S120_5 D m t29 h) (
 let t30 := eqL t3 ([47] : LN)
 br t30 (
 S120_5 D m t30 h) (
 let t31 := eqL t3 ([37] : LN)
 S120_5 D m t31 h)))
def e120_3 (k t3 t22 h) := kN k [(p3, (vS t3)), (p22, (vB t22))] h
def S120_3 (D : CallD) (m : Nat) (t3 : LN) (t22 : Bool) (h : HP) : Res2 :=
 br t22 (
 some (.ret (vI (Int.ofNat 7)) h, .no)) (
 let t26 := eqL t3 ([43] : LN)
 br t26 (
 S120_4 D m t3 t26 h) (
 let t27 := eqL t3 ([45] : LN)
 S120_4 D m t3 t27 h))
def e120_2 (k t3 t17 h) := kN k [(p3, (vS t3)), (p17, (vB t17))] h
def S120_2 (D : CallD) (m : Nat) (t3 : LN) (t17 : Bool) (h : HP) : Res2 :=
 br t17 (
 some (.ret (vI (Int.ofNat 6)) h, .no)) (
 let t23 := eqL t3 ([60, 60] : LN)
 br t23 (
 S120_3 D m t3 t23 h) (
 let t24 := eqL t3 ([62, 62] : LN)
 S120_3 D m t3 t24 h))
def e120_1 (k t3 t14 h) := kN k [(p3, (vS t3)), (p14, (vB t14))] h
def S120_1 (D : CallD) (m : Nat) (t3 : LN) (t14 : Bool) (h : HP) : Res2 :=
 br t14 (
 some (.ret (vI (Int.ofNat 5)) h, .no)) (
 let t18 := eqL t3 ([60] : LN)
 br t18 (
 S120_2 D m t3 t18 h) (
 let t19 := eqL t3 ([60, 61] : LN)
 br t19 (
 S120_2 D m t3 t19 h) (
 let t20 := eqL t3 ([62] : LN)
 br t20 (
 S120_2 D m t3 t20 h) (
 let t21 := eqL t3 ([62, 61] : LN)
 S120_2 D m t3 t21 h))))
def e120_6 (k t0 h) := kN k [(p0, (vS t0))] h
def S120_6 (D : CallD) (m : Nat) (t0 : LN) (h : HP) : Res2 :=
 let t5 := eqL t0 ([124, 124] : LN)
 br t5 (
 some (.ret (vI (Int.ofNat 0)) h, .no)) (
 let t7 := eqL t0 ([38, 38] : LN)
 br t7 (
 some (.ret (vI (Int.ofNat 1)) h, .no)) (
 let t9 := eqL t0 ([124] : LN)
 br t9 (
 some (.ret (vI (Int.ofNat 2)) h, .no)) (
 let t11 := eqL t0 ([94] : LN)
 br t11 (
 some (.ret (vI (Int.ofNat 3)) h, .no)) (
 let t13 := eqL t0 ([38] : LN)
 br t13 (
 some (.ret (vI (Int.ofNat 4)) h, .no)) (
 let t15 := eqL t0 ([61, 61] : LN)
 br t15 (
 S120_1 D m t0 t15 h) (
 let t16 := eqL t0 ([33, 61] : LN)
 S120_1 D m t0 t16 h))))))
def S120 : SFn := fun D m args h u => nou u <| popS args fun t0 args => endA args (S120_6 D m t0 h)
theorem T120_0 (hE : FX x120 D m E) : S120_0 D m = e120_0 (E c120_0 []) := by unfold S120_0; rw [hE c120_0]; kernel_rfl
theorem T120_5 (hE : FX x120 D m E) : S120_5 D m = e120_5 (E c120_5 [.blk 0, .sj v120_0 c120_0]) := by unfold S120_5; rw [T120_0 hE, hE c120_5]; kernel_rfl
theorem T120_4 (hE : FX x120 D m E) : S120_4 D m = e120_4 (E c120_4 [.blk 0, .sj v120_0 c120_0]) := by unfold S120_4; rw [T120_5 hE, hE c120_4]; kernel_rfl
theorem T120_3 (hE : FX x120 D m E) : S120_3 D m = e120_3 (E c120_3 [.blk 0, .sj v120_0 c120_0]) := by unfold S120_3; rw [T120_4 hE, hE c120_3]; kernel_rfl
theorem T120_2 (hE : FX x120 D m E) : S120_2 D m = e120_2 (E c120_2 [.blk 0, .sj v120_0 c120_0]) := by unfold S120_2; rw [T120_3 hE, hE c120_2]; kernel_rfl
theorem T120_1 (hE : FX x120 D m E) : S120_1 D m = e120_1 (E c120_1 [.blk 0, .sj v120_0 c120_0]) := by unfold S120_1; rw [T120_2 hE, hE c120_1]; kernel_rfl
theorem T120_6 (hE : FX x120 D m E) : S120_6 D m = e120_6 (E c120_e []) := by unfold S120_6; rw [T120_1 hE, hE c120_e]; kernel_rfl
theorem X120 : XTie S120 x120 := X_of fun D m E hE args h u => by unfold S120; rw [T120_6 hE]; kernel_rfl
/- 122 -/
def v122_3 : List Pos := [p1, p2]
def c122_3 : XC := (.sO [.L p207 (.cells 8 q1) .v, .ss 8 q2 q207, .mv p3 (ci 0) tI] (.s .ret))
def v122_6 : List Pos := [p1, p2, p6]
def c122_6 : XC := (.sO [.al p150 (.bsl [(.str []), (.str []), (.str []), (.str []), (.str []), (.str []), (.str []), (.str [])] 8 [⟨0, 1, (.c (.str [37]))⟩, ⟨1, 1, (.c (.str [60, 60]))⟩, ⟨2, 1, (.c (.str [62, 62]))⟩, ⟨3, 1, (.c (.str [38]))⟩, ⟨4, 1, (.c (.str [94]))⟩, ⟨5, 1, (.c (.str [124]))⟩, ⟨6, 1, (.c (.str [38, 38]))⟩, ⟨7, 1, (.c (.str [124, 124]))⟩]), .fa p151 1 q1, .ld p152 q151 .s, .cl p153 132 [q150, q152] .b, .mv p154 q153 .b, .ge p154 (XL.of [.G p154 true p155 (.mov q6) .b, .P p156 (.pick q154 q155 (cb false)) .b]) p156 .b] (.cond q156 (.sO [.L p157 (.cells 8 q1) .v, .ss 8 q2 q157, .mv p3 (ci 1) tI] (.s .ret)) (.s .skip)))
def v122_7 : List Pos := [p1, p2, p6, p8]
def c122_7 : XC := (.sO [.mv p148 q8 .b] (.cond q148 (.sO [.L p149 (.cells 8 q1) .v, .ss 8 q2 q149, .mv p3 (ci 1) tI] (.s .ret)) (.s .skip)))
def v122_5 : List Pos := [p1, p2, p4, p5, p6, p7]
def c122_5 : XC := (.seq (.seq (.oX [.al p105 (.bsl [(.str []), (.str []), (.str []), (.str [])] 4 [⟨0, 1, (.c (.str [60]))⟩, ⟨1, 1, (.c (.str [60, 61]))⟩, ⟨2, 1, (.c (.str [62]))⟩, ⟨3, 1, (.c (.str [62, 61]))⟩]), .fa p106 1 q1, .ld p107 q106 .s, .cl p108 132 [q105, q107] .b, .mv p109 q108 .b, .ge p109 (XL.of [.G p109 true p110 (.mov q7) .b, .P p111 (.pick q109 q110 (cb false)) .b]) p111 .b]) (.cond q111 (.seq (.oX [.L p112 (.cells 8 q1) .v, .ss 8 q2 q112, .mv p3 (ci 1) tI]) .ret) .skip)) (.sj v122_6 (.sO [.al p113 (.bsl [(.str []), (.str [])] 2 [⟨0, 1, (.c (.str [61, 61]))⟩, ⟨1, 1, (.c (.str [33, 61]))⟩]), .fa p114 1 q1, .ld p115 q114 .s, .cl p116 132 [q113, q115] .b] (.cond q116 (.sO [.mv p117 q7 .b, .mv p8 q117 .b] (.sj v122_7 (.sO [.mv p118 q4 tI, .cl p119 123 [q118] tI, .bn p120 .neq q119 (ci 0) .b] (.cond q120 (.s (.ops true (XL.of [.fa p122 5 q1, .ld p123 q122 .v, .fa p124 5 q1, .ld p125 q124 .v, .P p126 (.iaddr (.sl 8) q125 (ci 1)) .v, .L p127 (.cells 8 q126) .v, .mv p128 q4 tI, .o ⟨(some p129), (.call (.fn 104) [q127, q128]), none, [⟨none, .cell q122, p123⟩]⟩ .v, .mv p121 q129 .v, .P p130 (.ext q121 0) .v, .P p131 (.ext q121 1) .b, .P p132 (.iaddr (.sl 8) q123 (ci 1)) .v, .ss 8 q132 q130, .mv p8 q131 .b]))) (.sO [.mv p133 q5 tI, .cl p134 123 [q133] tI, .bn p135 .neq q134 (ci 0) .b] (.cond q135 (.s (.ops true (XL.of [.fa p137 5 q1, .ld p138 q137 .v, .fa p139 5 q1, .ld p140 q139 .v, .P p141 (.iaddr (.sl 8) q140 (ci 0)) .v, .L p142 (.cells 8 q141) .v, .mv p143 q5 tI, .o ⟨(some p144), (.call (.fn 104) [q142, q143]), none, [⟨none, .cell q137, p138⟩]⟩ .v, .mv p136 q144 .v, .P p145 (.ext q136 0) .v, .P p146 (.ext q136 1) .b, .P p147 (.iaddr (.sl 8) q138 (ci 0)) .v, .ss 8 q147 q145, .mv p8 q146 .b]))) (.s .skip))))) c122_7)) (.s .skip))) c122_6))
def c122_11 : XC := (.cond q102 (.sO [.L p103 (.cells 8 q1) .v, .mv p104 q4 tI, .ss 8 q2 q103, .mv p3 q104 tI] (.s .ret)) (.s .skip))
def l122_10 : XL := (XL.of [])
def l122_9 : XL := (XL.pre [.mv p94 q93 .b, .sp p94, .o ⟨(some p95), (.a (.bsl [(.str []), (.str [])] 2 [⟨0, 1, (.c (.str [42]))⟩, ⟨1, 1, (.c (.str [47]))⟩])), (some (p94, false)), []⟩ .v, .G p94 false p96 (.faddr 1 q1) .v, .o ⟨(some p97), (.l (.cell q96)), (some (p94, false)), []⟩ .s, .o ⟨(some p98), (.call (.fn 132) [q95, q97]), (some (p94, false)), []⟩ .b, .G p94 false p99 (.mov q98) .b, .ge p99 (XL.of [.G p99 true p100 (.mov q7) .b, .G p94 false p101 (.pick q99 q100 (cb false)) .b]) p101 .b, .P p102 (.pick q94 (cb true) q101) .b, .jn p94 [p1, p2, p4, p5, p6, p7, p102]] l122_10)
def l122_8 : XL := (XL.pre [.P p93 (.pick q82 q92 (cb false)) .b, .jn p82 [p1, p2, p4, p5, p6, p7, p93]] l122_9)
def c122_13 : XC := (.cond q179 (.sO [.L p180 (.cells 8 q1) .v, .mv p181 q4 tI, .ss 8 q2 q180, .mv p3 q181 tI] (.s .ret)) (.s .skip))
def l122_12 : XL := (XL.of [])
def v122_4 : List Pos := [p1, p2, p4, p5, p6, p7, p41, p42]
def c122_4 : XC := (.cond q42 (.seq (.ops true (XL.of [.L p45 (.cells 8 q1) .v, .fa p46 0 q1, .ld p47 q46 tI, .o ⟨none, (.e (.stores 8 q2 q45)), none, [⟨none, .cell q46, p47⟩]⟩ .v, .mv p3 q47 tI])) (.s .ret)) (.sO [.bn p49 .eql q41 (ci 4) .b, .mv p48 q49 .b] (.cond q48 (.sO [.fa p50 1 q1, .ld p51 q50 .s] (.block 1 (.sO [.bn p56 .eql q51 (.c (.str [45])) .b, .mv p55 q56 .b] (.cond q55 (.sO [.mv p57 q4 tI, .cl p58 66 [q57] .b] (.cond q58 (.sO [.L p59 (.cells 8 q1) .v, .mv p60 q4 tI, .ss 8 q2 q59, .mv p3 q60 tI] (.s .ret)) (.s .skip))) (.sO [.bn p62 .eql q51 (.c (.str [42])) .b, .mv p61 q62 .b] (.cond q61 (.seq (.ops true (XL.of [.L p63 (.cells 8 q1) .v, .mv p64 q4 tI, .o ⟨(some p65), (.call (.fn 123) [q64]), none, [⟨none, .cells 8 q1, p63⟩]⟩ tI, .ss 8 q2 q63, .mv p3 q65 tI])) (.s .ret)) (.sO [.bn p67 .eql q51 (.c (.str [38])) .b, .mv p66 q67 .b] (.cond q66 (.sO [.fa p68 5 q1, .ld p69 q68 .v, .P p70 (.iaddr (.sl 8) q69 (ci 0)) .v, .L p71 (.cells 8 q70) .v, .cl p72 131 [q71] .b] (.cond q72 (.seq (.ops true (XL.of [.L p73 (.cells 8 q1) .v, .mv p74 q4 tI, .o ⟨(some p75), (.call (.fn 121) [q74]), none, [⟨none, .cells 8 q1, p73⟩]⟩ tI, .ss 8 q2 q73, .mv p3 q75 tI])) (.s .ret)) (.s .skip))) (.sO [.mv p52 q4 tI, .bn p53 .eql q52 (ci 1) .b] (.cond q53 (.sO [.L p54 (.cells 8 q1) .v, .ss 8 q2 q54, .mv p3 (ci 1) tI] (.s .ret)) (.s .skip))))))))))) (.sO [.bn p77 .eql q41 (ci 5) .b, .mv p76 q77 .b] (.cond q76 (.sj v122_5 (.opq false (XL.pre [.al p78 (.bsl [(.str []), (.str [])] 2 [⟨0, 1, (.c (.str [43]))⟩, ⟨1, 1, (.c (.str [45]))⟩]), .fa p79 1 q1, .ld p80 q79 .s, .cl p81 132 [q78, q80] .b, .mv p82 q81 .b, .sp p82, .G p82 true p83 (.mov q7) .b, .G p82 true p84 (.mov q83) .b, .sp p84, .G p84 false p85 (.mov q4) tI, .o ⟨(some p86), (.call (.fn 123) [q85]), (some (p84, false)), []⟩ tI, .G p84 false p87 (.bin .neq q86 (ci 0)) .b, .G p84 false p88 (.mov q87) .b, .ge p88 (XL.of [.G p88 true p89 (.mov q5) tI, .G p88 true p90 (.bin .eql q89 (ci 1)) .b, .G p84 false p91 (.pick q88 q90 (cb false)) .b]) p91 .b, .G p82 true p92 (.pick q84 (cb true) q91) .b, .jn p84 [p1, p2, p4, p5, p6, p7, p82, p92]] l122_8) c122_11) c122_5) (.sO [.bn p159 .eql q41 (ci 6) .b, .mv p158 q159 .b] (.cond q158 (.seq (.ops true (XL.of [.fa p161 5 q1, .ld p162 q161 .v, .fa p163 5 q1, .ld p164 q163 .v, .P p165 (.iaddr (.sl 8) q164 (ci 1)) .v, .L p166 (.cells 8 q165) .v, .mv p167 q4 tI, .o ⟨(some p168), (.call (.fn 104) [q166, q167]), none, [⟨none, .cell q161, p162⟩]⟩ .v, .mv p160 q168 .v, .P p169 (.ext q160 0) .v, .P p170 (.ext q160 1) .b, .P p171 (.iaddr (.sl 8) q162 (ci 1)) .v, .ss 8 q171 q169, .mv p8 q170 .b])) (.opq false (XL.pre [.mv p172 q8 .b, .mv p173 q172 .b, .sp p173, .G p173 true p174 (.faddr 5 q1) .v, .o ⟨(some p175), (.l (.cell q174)), (some (p173, true)), []⟩ .v, .G p173 true p176 (.iaddr (.sl 8) q175 (ci 0)) .v, .o ⟨(some p177), (.l (.cells 8 q176)), (some (p173, true)), []⟩ .v, .o ⟨(some p178), (.call (.fn 131) [q177]), (some (p173, true)), []⟩ .b, .P p179 (.pick q173 q178 (cb false)) .b, .jn p173 [p1, p2, p4, p179]] l122_12) c122_13)) (.sO [.bn p183 .eql q41 (ci 8) .b, .mv p182 q183 .b] (.cond q182 (.sO [.mv p184 q5 tI, .bn p185 .eql q184 (ci 1) .b] (.cond q185 (.seq (.ops true (XL.of [.L p186 (.cells 8 q1) .v, .mv p187 q4 tI, .o ⟨(some p188), (.call (.fn 123) [q187]), none, [⟨none, .cells 8 q1, p186⟩]⟩ tI, .ss 8 q2 q186, .mv p3 q188 tI])) (.s .ret)) (.s .skip))) (.sO [.bn p190 .eql q41 (ci 9) .b, .mv p189 q190 .b] (.cond q189 (.sO [.mv p191 q4 tI, .cl p192 66 [q191] .b, .mv p193 q192 .b, .ge p193 (XL.of [.G p193 true p194 (.faddr 3 q1) .v, .o ⟨(some p195), (.l (.cell q194)), (some (p193, true)), []⟩ tW, .G p193 true p196 (.bin .eql q195 (.c (.int .u32 (.ofNat 1)))) .b, .G p193 true p197 (.mov q196) .b, .ge p197 (XL.of [.G p197 false p198 (.faddr 3 q1) .v, .o ⟨(some p199), (.l (.cell q198)), (some (p197, false)), []⟩ tW, .G p197 false p200 (.bin .eql q199 (.c (.int .u32 (.ofNat 2)))) .b, .G p193 true p201 (.pick q197 (cb true) q200) .b]) p201 .b, .P p202 (.pick q193 q201 (cb false)) .b]) p202 .b] (.cond q202 (.seq (.ops true (XL.of [.L p203 (.cells 8 q1) .v, .fa p204 3 q1, .ld p205 q204 tW, .P p206 (.conv (.ii .i64) q205) tI, .o ⟨none, (.e (.stores 8 q2 q203)), none, [⟨none, .cell q204, p205⟩]⟩ .v, .mv p3 q206 tI])) (.s .ret)) (.s .skip))) (.s .skip))))))))))))
def c122_14 : XC := (.sO [.mv p8 (cb false) .b] (.sj v122_3 (.sO [.fa p40 0 q1, .ld p41 q40 tI] (.block 0 (.sj v122_4 (.sO [.bn p43 .eql q41 (ci 1) .b, .mv p42 q43 .b] (.cond q42 (.s .skip) (.s (.oX [.bn p44 .eql q41 (ci 2) .b, .mv p42 q44 .b])))) c122_4))) c122_3))
def l122_2 : XL := (XL.of [.mv p6 q32 .b, .mv p7 q39 .b])
def v122_1 : List Pos := [p1, p2, p4, p5]
def c122_1 : XC := (.opq false (XL.pre [.mv p27 q4 tI, .bn p28 .eql q27 (ci 1) .b, .mv p29 q28 .b, .ge p29 (XL.of [.G p29 true p30 (.mov q5) tI, .G p29 true p31 (.bin .eql q30 (ci 1)) .b, .P p32 (.pick q29 q31 (cb false)) .b]) p32 .b, .mv p33 q4 tI, .mv p34 q5 tI, .bn p35 .eql q33 q34 .b, .mv p36 q35 .b, .sp p36, .G p36 true p37 (.mov q4) tI, .o ⟨(some p38), (.call (.fn 66) [q37]), (some (p36, true)), []⟩ .b, .P p39 (.pick q36 q38 (cb false)) .b, .jn p36 [p1, p2, p4, p5, p32, p39]] l122_2) c122_14)
def v122_0 : List Pos := [p1, p2, p4, p5]
def c122_0 : XC := (.sj v122_1 (.sO [.fa p18 5 q1, .ld p19 q18 .v, .P p20 (.lenl q19) tI, .bn p21 .gtr q20 (ci 1) .b] (.cond q21 (.s (.oX [.fa p22 5 q1, .ld p23 q22 .v, .P p24 (.iaddr (.sl 8) q23 (ci 1)) .v, .fa p25 6 q24, .ld p26 q25 tI, .mv p5 q26 tI])) (.s .skip))) c122_1)
def c122_e : XC := (.sO [.al p1 (.box q0), .al p2 (.new [(kI 0), (.str []), (.str []), (.int .u32 (.ofNat 0)), (.int .u64 (.ofNat 0)), .nils, (kI 0), (kI 0)]), .mv p3 (ci 0) tI] (.sO [.mv p4 (ci 0) tI, .mv p5 (ci 0) tI] (.sj v122_0 (.sO [.fa p9 5 q1, .ld p10 q9 .v, .P p11 (.lenl q10) tI, .bn p12 .gtr q11 (ci 0) .b] (.cond q12 (.s (.oX [.fa p13 5 q1, .ld p14 q13 .v, .P p15 (.iaddr (.sl 8) q14 (ci 0)) .v, .fa p16 6 q15, .ld p17 q16 tI, .mv p4 q17 tI])) (.s .skip))) c122_0)))
def x122 : XFn := ⟨[.v], false, [(.cells 8 p2), (.tmp p3)], c122_e⟩
def e122_3 (k t1 t2 h) := kN k [(p1, t1), (p2, t2)] h
def S122_3 (D : CallD) (m : Nat) (t1 t2 : AV) (h : HP) : Res2 :=
 cellsC 8 t1 h fun t207 =>
 stsC 8 t2 t207 h fun h19 =>
 cellsC 8 t2 h19 fun t2a =>
 some (.ret (.tup [t2a, (vI (Int.ofNat 0))]) h19, .no)
def e122_6 (k t1 t2 t6 h) := kN k [(p1, t1), (p2, t2), (p6, (vB t6))] h
def S122_6 (D : CallD) (m : Nat) (t1 t2 : AV) (t6 : Bool) (h : HP) : Res2 :=
 let t150 := AV.slice (HP.nxQ h) 0 8 (.exact 8)
 let h32 := HP.newQ h (.cells true [(vS ([37] : LN)), (vS ([60, 60] : LN)), (vS ([62, 62] : LN)), (vS ([38] : LN)), (vS ([94] : LN)), (vS ([124] : LN)), (vS ([38, 38] : LN)), (vS ([124, 124] : LN))])
 faC 1 t1 fun t151 =>
 ldS t151 h32 fun t152 =>
 cal D 132 [t150, (vS t152)] h32 fun t153 h33 =>
 asB t153 fun t153a =>
 obB (brV t153a (
 some (vB t6)) (
 some (vB false))) fun t156 =>
 br t156 (
 cellsC 8 t1 h33 fun t157 =>
 stsC 8 t2 t157 h33 fun h34 =>
 cellsC 8 t2 h34 fun t2a =>
 some (.ret (.tup [t2a, (vI (Int.ofNat 1))]) h34, .no)) (
 S122_3 D m t1 t2 h33)
def e122_7 (k t1 t2 t6 t8 h) := kN k [(p1, t1), (p2, t2), (p6, (vB t6)), (p8, (vB t8))] h
def S122_7 (D : CallD) (m : Nat) (t1 t2 : AV) (t6 t8 : Bool) (h : HP) : Res2 :=
 br t8 (
 cellsC 8 t1 h fun t149 =>
 stsC 8 t2 t149 h fun h37 =>
 cellsC 8 t2 h37 fun t2a =>
 some (.ret (.tup [t2a, (vI (Int.ofNat 1))]) h37, .no)) (
 S122_6 D m t1 t2 t6 h)
def e122_5 (k t1 t2 t4 t5 t6 t7 h) := kN k [(p1, t1), (p2, t2), (p4, (vI t4)), (p5, (vI t5)), (p6, (vB t6)), (p7, (vB t7))] h
def S122_5 (D : CallD) (m : Nat) (t1 t2 : AV) (t4 t5 : Int) (t6 t7 : Bool) (h : HP) : Res2 :=
 let t105 := AV.slice (HP.nxQ h) 0 4 (.exact 4)
 let h29 := HP.newQ h (.cells true [(vS ([60] : LN)), (vS ([60, 61] : LN)), (vS ([62] : LN)), (vS ([62, 61] : LN))])
 faC 1 t1 fun t106 =>
 ldS t106 h29 fun t107 =>
 cal D 132 [t105, (vS t107)] h29 fun t108 h30 =>
 asB t108 fun t108a =>
 obB (brV t108a (
 some (vB t7)) (
 some (vB false))) fun t111 =>
 br t111 (
 cellsC 8 t1 h30 fun t112 =>
 stsC 8 t2 t112 h30 fun h31 =>
 cellsC 8 t2 h31 fun t2a =>
 some (.ret (.tup [t2a, (vI (Int.ofNat 1))]) h31, .no)) (
 let t113 := AV.slice (HP.nxQ h30) 0 2 (.exact 2)
 let h35 := HP.newQ h30 (.cells true [(vS ([61, 61] : LN)), (vS ([33, 61] : LN))])
 faC 1 t1 fun t114 =>
 ldS t114 h35 fun t115 =>
 cal D 132 [t113, (vS t115)] h35 fun t116 h36 =>
 asB t116 fun t116a =>
 br t116a (
 cal D 123 [(vI t4)] h36 fun t119 h38 =>
 asI .i64 t119 fun t119a =>
 let t120 := notQ (eqQ t119a (Int.ofNat 0))
 br t120 (
 faC 5 t1 fun t122 =>
 cellC t122 h38 fun t123 =>
 faC 5 t1 fun t124 =>
 cellC t124 h38 fun t125 =>
 iasC 8 t125 (vI (Int.ofNat 1)) fun t126 =>
 cellsC 8 t126 h38 fun t127 =>
 cal D 104 [t127, (vI t4)] h38 fun t129 h39 =>
 br (again [⟨none, .cell q122, p123⟩] (mkT [(p123, t123), (p122, t122)]) h39) (
 extC t129 0 fun t130 =>
 extC t129 1 fun vt131 => asB vt131 fun t131 =>
 iasC 8 t123 (vI (Int.ofNat 1)) fun t132 =>
 stsC 8 t132 t130 h39 fun h40 =>
 S122_7 D m t1 t2 t6 t131 h40) none) (
 cal D 123 [(vI t5)] h38 fun t134 h41 =>
 asI .i64 t134 fun t134a =>
 let t135 := notQ (eqQ t134a (Int.ofNat 0))
 br t135 (
 faC 5 t1 fun t137 =>
 cellC t137 h41 fun t138 =>
 faC 5 t1 fun t139 =>
 cellC t139 h41 fun t140 =>
 iasC 8 t140 (vI (Int.ofNat 0)) fun t141 =>
 cellsC 8 t141 h41 fun t142 =>
 cal D 104 [t142, (vI t5)] h41 fun t144 h42 =>
 br (again [⟨none, .cell q137, p138⟩] (mkT [(p138, t138), (p137, t137)]) h42) (
 extC t144 0 fun t145 =>
 extC t144 1 fun vt146 => asB vt146 fun t146 =>
 iasC 8 t138 (vI (Int.ofNat 0)) fun t147 =>
 stsC 8 t147 t145 h42 fun h43 =>
 S122_7 D m t1 t2 t6 t146 h43) none) (
 S122_7 D m t1 t2 t6 t7 h41))) (
 S122_6 D m t1 t2 t6 h36))
def e122_10 (k t1 t2 t4 t5 t6 t7 t102 h) := kN k [(p1, t1), (p2, t2), (p4, (vI t4)), (p5, (vI t5)), (p6, (vB t6)), (p7, (vB t7)), (p102, (vB t102))] h
def S122_10 (D : CallD) (m : Nat) (t1 t2 : AV) (t4 t5 : Int) (t6 t7 t102 : Bool) (h : HP) : Res2 :=
 br t102 (
 cellsC 8 t1 h fun t103 =>
 stsC 8 t2 t103 h fun h46 =>
 cellsC 8 t2 h46 fun t2a =>
 some (.ret (.tup [t2a, (vI t4)]) h46, .no)) (
 S122_5 D m t1 t2 t4 t5 t6 t7 h)
def e122_9 (k t1 t2 t4 t5 t6 t7 t93 h) := kN k [(p1, t1), (p2, t2), (p4, (vI t4)), (p5, (vI t5)), (p6, (vB t6)), (p7, (vB t7)), (p93, (vB t93))] h
def S122_9 (D : CallD) (m : Nat) (t1 t2 : AV) (t4 t5 : Int) (t6 t7 t93 : Bool) (h : HP) : Res2 :=
 br t93 (
 S122_10 D m t1 t2 t4 t5 t6 t7 true h) (
 let t95 := AV.slice (HP.nxQ h) 0 2 (.exact 2)
 let h47 := HP.newQ h (.cells true [(vS ([42] : LN)), (vS ([47] : LN))])
 faC 1 t1 fun t96 =>
 ldS t96 h47 fun t97 =>
 cal D 132 [t95, (vS t97)] h47 fun t98 h48 =>
 asB t98 fun t98a =>
 obB (brV t98a (
 some (vB t7)) (
 some (vB false))) fun t101 =>
 S122_10 D m t1 t2 t4 t5 t6 t7 t101 h48)
def e122_8 (k t1 t2 t4 t5 t6 t7 t82 t92 h) := kN k [(p1, t1), (p2, t2), (p4, (vI t4)), (p5, (vI t5)), (p6, (vB t6)), (p7, (vB t7)), (p82, (vB t82)), (p92, (vB t92))] h
def S122_8 (D : CallD) (m : Nat) (t1 t2 : AV) (t4 t5 : Int) (t6 t7 t82 t92 : Bool) (h : HP) : Res2 :=
 obB (brV t82 (some (vB t92)) (some (vB false))) fun t93 =>
 S122_9 D m t1 t2 t4 t5 t6 t7 t93 h
def e122_12 (k t1 t2 t4 t179 h) := kN k [(p1, t1), (p2, t2), (p4, (vI t4)), (p179, (vB t179))] h
def S122_12 (D : CallD) (m : Nat) (t1 t2 : AV) (t4 : Int) (t179 : Bool) (h : HP) : Res2 :=
 br t179 (
 cellsC 8 t1 h fun t180 =>
 stsC 8 t2 t180 h fun h53 =>
 cellsC 8 t2 h53 fun t2a =>
 some (.ret (.tup [t2a, (vI t4)]) h53, .no)) (
 S122_3 D m t1 t2 h)
def e122_4 (k t1 t2 t4 t5 t6 t7 t41 t42 h) := kN k [(p1, t1), (p2, t2), (p4, (vI t4)), (p5, (vI t5)), (p6, (vB t6)), (p7, (vB t7)), (p41, (vI t41)), (p42, (vB t42))] h
def S122_4 (D : CallD) (m : Nat) (t1 t2 : AV) (t4 t5 : Int) (t6 t7 : Bool) (t41 : Int) (t42 : Bool) (h : HP) : Res2 :=
 br t42 (
 cellsC 8 t1 h fun t45 =>
 faC 0 t1 fun t46 =>
 ldI t46 h fun t47 =>
 stsC 8 t2 t45 h fun h20 =>
 br (againE (.stores 8 q2 q45) [⟨none, .cell q46, p47⟩] (mkT [(p2, t2), (p47, (vI t47)), (p46, t46)]) h20) (
 cellsC 8 t2 h20 fun t2a =>
 some (.ret (.tup [t2a, (vI t47)]) h20, .no)) none) (
 let t49 := eqQ t41 (Int.ofNat 4)
 br t49 (
 faC 1 t1 fun t50 =>
 ldS t50 h fun t51 =>
 let t56 := eqL t51 ([45] : LN)
 br t56 (
 cal D 66 [(vI t4)] h fun t58 h21 =>
 asB t58 fun t58a =>
 br t58a (
 cellsC 8 t1 h21 fun t59 =>
 stsC 8 t2 t59 h21 fun h22 =>
 cellsC 8 t2 h22 fun t2a =>
 some (.ret (.tup [t2a, (vI t4)]) h22, .no)) (
 S122_3 D m t1 t2 h21)) (
 let t62 := eqL t51 ([42] : LN)
 br t62 (
 cellsC 8 t1 h fun t63 =>
 cal D 123 [(vI t4)] h fun t65 h23 =>
 br (again [⟨none, .cells 8 q1, p63⟩] (mkT [(p63, t63), (p1, t1)]) h23) (
 asI .i64 t65 fun t65a =>
 stsC 8 t2 t63 h23 fun h24 =>
 cellsC 8 t2 h24 fun t2a =>
 some (.ret (.tup [t2a, (vI t65a)]) h24, .no)) none) (
 let t67 := eqL t51 ([38] : LN)
 br t67 (
 faC 5 t1 fun t68 =>
 cellC t68 h fun t69 =>
 iasC 8 t69 (vI (Int.ofNat 0)) fun t70 =>
 cellsC 8 t70 h fun t71 =>
 cal D 131 [t71] h fun t72 h25 =>
 asB t72 fun t72a =>
 br t72a (
 cellsC 8 t1 h25 fun t73 =>
 cal D 121 [(vI t4)] h25 fun t75 h26 =>
 br (again [⟨none, .cells 8 q1, p73⟩] (mkT [(p73, t73), (p1, t1)]) h26) (
 asI .i64 t75 fun t75a =>
 stsC 8 t2 t73 h26 fun h27 =>
 cellsC 8 t2 h27 fun t2a =>
 some (.ret (.tup [t2a, (vI t75a)]) h27, .no)) none) (
 S122_3 D m t1 t2 h25)) (
 let t53 := eqQ t4 (Int.ofNat 1)
 br t53 (
 cellsC 8 t1 h fun t54 =>
 stsC 8 t2 t54 h fun h28 =>
 cellsC 8 t2 h28 fun t2a =>
 some (.ret (.tup [t2a, (vI (Int.ofNat 1))]) h28, .no)) (
 S122_3 D m t1 t2 h))))) (
 let t77 := eqQ t41 (Int.ofNat 5)
 br t77 (
 let t78 := AV.slice (HP.nxQ h) 0 2 (.exact 2)
 let h44 := HP.newQ h (.cells true [(vS ([43] : LN)), (vS ([45] : LN))])
 faC 1 t1 fun t79 =>
 ldS t79 h44 fun t80 =>
 cal D 132 [t78, (vS t80)] h44 fun t81 h45 =>
 asB t81 fun t81a =>
 br t81a (
 br t7 (
 S122_8 D m t1 t2 t4 t5 t6 t7 true true h45) (
 cal D 123 [(vI t4)] h45 fun t86 h49 =>
 asI .i64 t86 fun t86a =>
 let t87 := notQ (eqQ t86a (Int.ofNat 0))
 obB (brV t87 (
 let t90 := eqQ t5 (Int.ofNat 1)
 some (vB t90)) (
 some (vB false))) fun t91 =>
 S122_8 D m t1 t2 t4 t5 t6 t7 true t91 h49)) (
 S122_9 D m t1 t2 t4 t5 t6 t7 false h45)) (
 let t159 := eqQ t41 (Int.ofNat 6)
 br t159 (
 faC 5 t1 fun t161 =>
 cellC t161 h fun t162 =>
 faC 5 t1 fun t163 =>
 cellC t163 h fun t164 =>
 iasC 8 t164 (vI (Int.ofNat 1)) fun t165 =>
 cellsC 8 t165 h fun t166 =>
 cal D 104 [t166, (vI t4)] h fun t168 h50 =>
 br (again [⟨none, .cell q161, p162⟩] (mkT [(p162, t162), (p161, t161)]) h50) (
 extC t168 0 fun t169 =>
 extC t168 1 fun vt170 => asB vt170 fun t170 =>
 iasC 8 t162 (vI (Int.ofNat 1)) fun t171 =>
 stsC 8 t171 t169 h50 fun h51 =>
 br t170 (
 faC 5 t1 fun t174 =>
 cellC t174 h51 fun t175 =>
 iasC 8 t175 (vI (Int.ofNat 0)) fun t176 =>
 cellsC 8 t176 h51 fun t177 =>
 cal D 131 [t177] h51 fun t178 h52 =>
 asB t178 fun t178a =>
 S122_12 D m t1 t2 t4 t178a h52) (
 S122_12 D m t1 t2 t4 false h51)) none) (
 let t183 := eqQ t41 (Int.ofNat 8)
 br t183 (
 let t185 := eqQ t5 (Int.ofNat 1)
 br t185 (
 cellsC 8 t1 h fun t186 =>
 cal D 123 [(vI t4)] h fun t188 h54 =>
 br (again [⟨none, .cells 8 q1, p186⟩] (mkT [(p186, t186), (p1, t1)]) h54) (
 asI .i64 t188 fun t188a =>
 stsC 8 t2 t186 h54 fun h55 =>
 cellsC 8 t2 h55 fun t2a =>
 some (.ret (.tup [t2a, (vI t188a)]) h55, .no)) none) (
 S122_3 D m t1 t2 h)) (
 let t190 := eqQ t41 (Int.ofNat 9)
 br t190 (
 cal D 66 [(vI t4)] h fun t192 h56 =>
 asB t192 fun t192a =>
 obB (brV t192a (
 faCV 3 t1 fun t194 =>
 ldWV t194 h56 fun t195 =>
 binCV .eql (vW t195) (vW (Int.ofNat 1)) fun vt196 => asBV vt196 fun t196 =>
 obBV (brV t196 (
 some (vB true)) (
 faCV 3 t1 fun t198 =>
 ldWV t198 h56 fun t199 =>
 binCV .eql (vW t199) (vW (Int.ofNat 2)) fun vt200 => asBV vt200 fun t200 =>
 some (vB t200))) fun t201 =>
 some (vB t201)) (
 some (vB false))) fun t202 =>
 br t202 (
 cellsC 8 t1 h56 fun t203 =>
 faC 3 t1 fun t204 =>
 ldW t204 h56 fun t205 =>
 obI .i64 (convV (.ii .i64) (vW t205)) fun t206 =>
 stsC 8 t2 t203 h56 fun h57 =>
 br (againE (.stores 8 q2 q203) [⟨none, .cell q204, p205⟩] (mkT [(p2, t2), (p205, (vW t205)), (p204, t204)]) h57) (
 cellsC 8 t2 h57 fun t2a =>
 some (.ret (.tup [t2a, (vI t206)]) h57, .no)) none) (
 S122_3 D m t1 t2 h56)) (
 S122_3 D m t1 t2 h))))))
def e122_2 (k t1 t2 t4 t5 t32 t39 h) := kN k [(p1, t1), (p2, t2), (p4, (vI t4)), (p5, (vI t5)), (p32, (vB t32)), (p39, (vB t39))] h
def S122_2 (D : CallD) (m : Nat) (t1 t2 : AV) (t4 t5 : Int) (t32 t39 : Bool) (h : HP) : Res2 :=
 faC 0 t1 fun t40 =>
 ldI t40 h fun t41 =>
 let t43 := eqQ t41 (Int.ofNat 1)
 br t43 (
 S122_4 D m t1 t2 t4 t5 t32 t39 t41 t43 h) (
 let t44 := eqQ t41 (Int.ofNat 2)
 S122_4 D m t1 t2 t4 t5 t32 t39 t41 t44 h)
def e122_1 (k t1 t2 t4 t5 h) := kN k [(p1, t1), (p2, t2), (p4, (vI t4)), (p5, (vI t5))] h
def S122_1 (D : CallD) (m : Nat) (t1 t2 : AV) (t4 t5 : Int) (h : HP) : Res2 :=
 let t28 := eqQ t4 (Int.ofNat 1)
 obB (brV t28 (
 let t31 := eqQ t5 (Int.ofNat 1)
 some (vB t31)) (
 some (vB false))) fun t32 =>
 let t35 := eqQ t4 t5
 br t35 (
 cal D 66 [(vI t4)] h fun t38 h18 =>
 asB t38 fun t38a =>
 S122_2 D m t1 t2 t4 t5 t32 t38a h18) (
 S122_2 D m t1 t2 t4 t5 t32 false h)
def e122_0 (k t1 t2 t4 t5 h) := kN k [(p1, t1), (p2, t2), (p4, (vI t4)), (p5, (vI t5))] h
def S122_0 (D : CallD) (m : Nat) (t1 t2 : AV) (t4 t5 : Int) (h : HP) : Res2 :=
 faC 5 t1 fun t18 =>
 cellC t18 h fun t19 =>
 lenC t19 fun vt20 => asI .i64 vt20 fun t20 =>
 let t21 := ltQ (Int.ofNat 1) t20
 br t21 (
 faC 5 t1 fun t22 =>
 cellC t22 h fun t23 =>
 iasC 8 t23 (vI (Int.ofNat 1)) fun t24 =>
 faC 6 t24 fun t25 =>
 ldI t25 h fun t26 =>
 S122_1 D m t1 t2 t4 t26 h) (
 S122_1 D m t1 t2 t4 t5 h)
def e122_15 (k t0 h) := kN k [(p0, t0)] h
def S122_15 (D : CallD) (m : Nat) (t0 : AV) (h : HP) : Res2 :=
 let t1 := AV.ptr (HP.nxQ h) 0
 let h16 := HP.newQ h (.cells true (AV.cells t0))
 let t2 := AV.ptr (HP.nxQ h16) 0
 let h17 := HP.newQ h16 (.cells true [(kI 0), (.str []), (.str []), (.int .u32 (.ofNat 0)), (.int .u64 (.ofNat 0)), .nils, (kI 0), (kI 0)])
 let t9 := (AV.ptr (HP.nxQ h) (Nat.add 0 5))
 cellC t9 h17 fun t10 =>
 lenC t10 fun vt11 => asI .i64 vt11 fun t11 =>
 let t12 := ltQ (Int.ofNat 0) t11
 br t12 (
 let t13 := (AV.ptr (HP.nxQ h) (Nat.add 0 5))
 cellC t13 h17 fun t14 =>
 iasC 8 t14 (vI (Int.ofNat 0)) fun t15 =>
 faC 6 t15 fun t16 =>
 ldI t16 h17 fun t17 =>
 S122_0 D m t1 t2 t17 (Int.ofNat 0) h17) (
 S122_0 D m t1 t2 (Int.ofNat 0) (Int.ofNat 0) h17)
def S122 : SFn := fun D m args h u => nou u <| popV args fun t0 args => endA args (S122_15 D m t0 h)
theorem T122_3 (hE : FX x122 D m E) : S122_3 D m = e122_3 (E c122_3 []) := by unfold S122_3; rw [hE c122_3]; kernel_rfl
theorem T122_6 (hE : FX x122 D m E) : S122_6 D m = e122_6 (E c122_6 [.blk 0, .sj v122_3 c122_3]) := by unfold S122_6; rw [T122_3 hE, hE c122_6]; kernel_rfl
theorem T122_7 (hE : FX x122 D m E) : S122_7 D m = e122_7 (E c122_7 [.sj v122_6 c122_6, .blk 0, .sj v122_3 c122_3]) := by unfold S122_7; rw [T122_6 hE, hE c122_7]; kernel_rfl
theorem T122_5 (hE : FX x122 D m E) : S122_5 D m = e122_5 (E c122_5 [.blk 0, .sj v122_3 c122_3]) := by unfold S122_5; rw [T122_7 hE, T122_6 hE, hE c122_5]; kernel_rfl
theorem T122_10 (hE : FX x122 D m E) : S122_10 D m = e122_10 (E (.opq false l122_10 c122_11) [.sj v122_5 c122_5, .blk 0, .sj v122_3 c122_3]) := by unfold S122_10; rw [T122_5 hE, hE (.opq false l122_10 c122_11)]; kernel_rfl
theorem T122_9 (hE : FX x122 D m E) : S122_9 D m = e122_9 (E (.opq false l122_9 c122_11) [.sj v122_5 c122_5, .blk 0, .sj v122_3 c122_3]) := by unfold S122_9; rw [T122_10 hE, hE (.opq false l122_9 c122_11)]; kernel_rfl
theorem T122_8 (hE : FX x122 D m E) : S122_8 D m = e122_8 (E (.opq false l122_8 c122_11) [.sj v122_5 c122_5, .blk 0, .sj v122_3 c122_3]) := by unfold S122_8; rw [T122_9 hE, hE (.opq false l122_8 c122_11)]; kernel_rfl
theorem T122_12 (hE : FX x122 D m E) : S122_12 D m = e122_12 (E (.opq false l122_12 c122_13) [.blk 0, .sj v122_3 c122_3]) := by unfold S122_12; rw [T122_3 hE, hE (.opq false l122_12 c122_13)]; kernel_rfl
theorem T122_4 (hE : FX x122 D m E) : S122_4 D m = e122_4 (E c122_4 [.blk 0, .sj v122_3 c122_3]) := by unfold S122_4; rw [T122_3 hE, T122_8 hE, T122_9 hE, T122_12 hE, hE c122_4]; kernel_rfl
theorem T122_2 (hE : FX x122 D m E) : S122_2 D m = e122_2 (E (.opq false l122_2 c122_14) []) := by unfold S122_2; rw [T122_4 hE, hE (.opq false l122_2 c122_14)]; kernel_rfl
theorem T122_1 (hE : FX x122 D m E) : S122_1 D m = e122_1 (E c122_1 []) := by unfold S122_1; rw [T122_2 hE, hE c122_1]; kernel_rfl
theorem T122_0 (hE : FX x122 D m E) : S122_0 D m = e122_0 (E c122_0 []) := by unfold S122_0; rw [T122_1 hE, hE c122_0]; kernel_rfl
theorem T122_15 (hE : FX x122 D m E) : S122_15 D m = e122_15 (E c122_e []) := by unfold S122_15; rw [T122_0 hE, hE c122_e]; kernel_rfl
theorem X122 : XTie S122 x122 := X_of fun D m E hE args h u => by unfold S122; rw [T122_15 hE]; kernel_rfl
/- 123 -/
def c123_e : XC := (.sO [.mv p2 (ci 0) tI] (.seq (.seq (.oX [.mv p3 q0 tI, .bn p4 .eql q3 (ci 3) .b, .mv p5 q4 .b, .ge p5 (XL.of [.G p5 false p6 (.mov q0) tI, .G p5 false p7 (.bin .eql q6 (ci 4)) .b, .P p8 (.pick q5 (cb true) q7) .b]) p8 .b]) (.cond q8 (.seq (.oX [.mv p9 q0 tI, .bn p10 .sub q9 (ci 2) tI, .mv p2 q10 tI]) .ret) .skip)) (.sO [.mv p2 (ci 0) tI] (.s .ret))))
def x123 : XFn := ⟨[tI], false, [(.tmp p2)], c123_e⟩
def e123_0 (k t0 h) := kN k [(p0, (vI t0))] h
def S123_0 (D : CallD) (m : Nat) (t0 : Int) (h : HP) : Res2 :=
 let t4 := eqQ t0 (Int.ofNat 3)
 obB (brV t4 (
 some (vB true)) (
 let t7 := eqQ t0 (Int.ofNat 4)
 some (vB t7))) fun t8 =>
 br t8 (
 let t10 := wrQ .i64 (t0 - (Int.ofNat 2))
 some (.ret (vI t10) h, .no)) (
 some (.ret (vI (Int.ofNat 0)) h, .no))
def S123 : SFn := fun D m args h u => nou u <| popI .i64 args fun t0 args => endA args (S123_0 D m t0 h)
theorem T123_0 (hE : FX x123 D m E) : S123_0 D m = e123_0 (E c123_e []) := by unfold S123_0; rw [hE c123_e]; kernel_rfl
theorem X123 : XTie S123 x123 := X_of fun D m E hE args h u => by unfold S123; rw [T123_0 hE]; kernel_rfl
/- 124 -/
def c124_e : XC := (.sO [.mv p2 (.c (.str [])) .s] (.seq (.seq (.oX [.mv p3 q0 tI, .bn p4 .lss q3 (ci 10) .b]) (.cond q4 (.seq (.oX [.mv p5 q0 tI, .mv p6 q0 tI, .bn p7 .add q6 (ci 1) tI, .P p8 (.slice .str (.c (.str [48, 49, 50, 51, 52, 53, 54, 55, 56, 57, 97, 98, 99, 100, 101, 102, 103, 104, 105, 106, 107, 108, 109, 110, 111, 112, 113, 114, 115, 116, 117, 118, 119, 120, 121, 122])) (some q5) (some q7) none) .s, .mv p2 q8 .s]) .ret) .skip)) (.sO [.mv p9 q0 tI, .bn p10 .mul q9 (ci 2) tI, .mv p11 q0 tI, .bn p12 .mul q11 (ci 2) tI, .bn p13 .add q12 (ci 2) tI, .P p14 (.slice .str (.c (.str [48, 48, 48, 49, 48, 50, 48, 51, 48, 52, 48, 53, 48, 54, 48, 55, 48, 56, 48, 57, 49, 48, 49, 49, 49, 50, 49, 51, 49, 52, 49, 53, 49, 54, 49, 55, 49, 56, 49, 57, 50, 48, 50, 49, 50, 50, 50, 51, 50, 52, 50, 53, 50, 54, 50, 55, 50, 56, 50, 57, 51, 48, 51, 49, 51, 50, 51, 51, 51, 52, 51, 53, 51, 54, 51, 55, 51, 56, 51, 57, 52, 48, 52, 49, 52, 50, 52, 51, 52, 52, 52, 53, 52, 54, 52, 55, 52, 56, 52, 57, 53, 48, 53, 49, 53, 50, 53, 51, 53, 52, 53, 53, 53, 54, 53, 55, 53, 56, 53, 57, 54, 48, 54, 49, 54, 50, 54, 51, 54, 52, 54, 53, 54, 54, 54, 55, 54, 56, 54, 57, 55, 48, 55, 49, 55, 50, 55, 51, 55, 52, 55, 53, 55, 54, 55, 55, 55, 56, 55, 57, 56, 48, 56, 49, 56, 50, 56, 51, 56, 52, 56, 53, 56, 54, 56, 55, 56, 56, 56, 57, 57, 48, 57, 49, 57, 50, 57, 51, 57, 52, 57, 53, 57, 54, 57, 55, 57, 56, 57, 57])) (some q10) (some q13) none) .s, .mv p2 q14 .s] (.s .ret))))
def x124 : XFn := ⟨[tI], false, [(.tmp p2)], c124_e⟩
def e124_0 (k t0 h) := kN k [(p0, (vI t0))] h
def S124_0 (D : CallD) (m : Nat) (t0 : Int) (h : HP) : Res2 :=
 let t4 := ltQ t0 (Int.ofNat 10)
 br t4 (
 let t7 := wrQ .i64 (addQ t0 (Int.ofNat 1))
 slC (vS ([48, 49, 50, 51, 52, 53, 54, 55, 56, 57, 97, 98, 99, 100, 101, 102, 103, 104, 105, 106, 107, 108, 109, 110, 111, 112, 113, 114, 115, 116, 117, 118, 119, 120, 121, 122] : LN)) (some (vI t0)) (some (vI t7)) fun vt8 => asS vt8 fun t8 =>
 some (.ret (vS t8) h, .no)) (
 let t10 := wrQ .i64 (t0 * (Int.ofNat 2))
 let t12 := wrQ .i64 (t0 * (Int.ofNat 2))
 let t13 := wrQ .i64 (addQ t12 (Int.ofNat 2))
 slC (vS ([48, 48, 48, 49, 48, 50, 48, 51, 48, 52, 48, 53, 48, 54, 48, 55, 48, 56, 48, 57, 49, 48, 49, 49, 49, 50, 49, 51, 49, 52, 49, 53, 49, 54, 49, 55, 49, 56, 49, 57, 50, 48, 50, 49, 50, 50, 50, 51, 50, 52, 50, 53, 50, 54, 50, 55, 50, 56, 50, 57, 51, 48, 51, 49, 51, 50, 51, 51, 51, 52, 51, 53, 51, 54, 51, 55, 51, 56, 51, 57, 52, 48, 52, 49, 52, 50, 52, 51, 52, 52, 52, 53, 52, 54, 52, 55, 52, 56, 52, 57, 53, 48, 53, 49, 53, 50, 53, 51, 53, 52, 53, 53, 53, 54, 53, 55, 53, 56, 53, 57, 54, 48, 54, 49, 54, 50, 54, 51, 54, 52, 54, 53, 54, 54, 54, 55, 54, 56, 54, 57, 55, 48, 55, 49, 55, 50, 55, 51, 55, 52, 55, 53, 55, 54, 55, 55, 55, 56, 55, 57, 56, 48, 56, 49, 56, 50, 56, 51, 56, 52, 56, 53, 56, 54, 56, 55, 56, 56, 56, 57, 57, 48, 57, 49, 57, 50, 57, 51, 57, 52, 57, 53, 57, 54, 57, 55, 57, 56, 57, 57] : LN)) (some (vI t10)) (some (vI t13)) fun vt14 => asS vt14 fun t14 =>
 some (.ret (vS t14) h, .no))
def S124 : SFn := fun D m args h u => nou u <| popI .i64 args fun t0 args => endA args (S124_0 D m t0 h)
theorem T124_0 (hE : FX x124 D m E) : S124_0 D m = e124_0 (E c124_e []) := by unfold S124_0; rw [hE c124_e]; kernel_rfl
theorem X124 : XTie S124 x124 := X_of fun D m E hE args h u => by unfold S124; rw [T124_0 hE]; kernel_rfl
/- 130 -/
def v130_1 : List Pos := [p1, p2, p3, p5]
def c130_1 : XC := (.seq (.ops true (XL.of [.L p109 (.cells 5 q1) .v, .L p110 (.cells 8 q5) .v, .o ⟨none, (.e (.stores 5 q2 q109)), none, [⟨none, .cells 8 q5, p110⟩]⟩ .v, .ss 8 q3 q110])) (.s .ret))
def v130_2 : List Pos := [p1, p2, p3, p5]
def c130_2b : XC := (.seq (.seq (.oX [.L p92 (.cells 5 q1) .v, .cl p93 54 [q92, (.c (.str [91]))] .b]) (.cond q93 .skip (.exit 0))) (.block 1 (.sO [.P p94 (.build [(kI 0), (.str []), (.str []), (.int .u32 (.ofNat 0)), (.int .u64 (.ofNat 0)), .nils, (kI 0), (kI 0)] []) .v, .al p9 (.new [(kI 0), (.str []), (.str []), (.int .u32 (.ofNat 0)), (.int .u64 (.ofNat 0)), .nils, (kI 0), (kI 0)]), .ss 8 q9 q94] (.sO [.L p96 (.cells 5 q1) .v, .cl p97 55 [q96] .v, .cl p98 62 [q97] .v, .mv p95 q98 .v, .P p99 (.ext q95 0) .v, .P p100 (.ext q95 1) .v, .ss 5 q1 q99, .ss 8 q9 q100] (.sO [.L p101 (.cells 8 q5) .v, .L p102 (.cells 8 q9) .v, .al p103 (.bsl [(kI 0), (.str []), (.str []), (.int .u32 (.ofNat 0)), (.int .u64 (.ofNat 0)), .nils, (kI 0), (kI 0), (kI 0), (.str []), (.str []), (.int .u32 (.ofNat 0)), (.int .u64 (.ofNat 0)), .nils, (kI 0), (kI 0)] 2 [⟨0, 8, q101⟩, ⟨8, 8, q102⟩]), .fa p104 7 q5, .ld p105 q104 tI, .P p106 (.build [(kI 0), (.str []), (.str []), (.int .u32 (.ofNat 0)), (.int .u64 (.ofNat 0)), .nils, (kI 0), (kI 0)] [⟨0, 1, (ci 8)⟩, ⟨5, 1, q103⟩, ⟨7, 1, q105⟩]) .v, .ss 8 q5 q106] (.s (.oX [.L p107 (.cells 5 q1) .v, .cl p108 60 [q107, (.c (.str [93]))] .v, .ss 5 q1 q108])))))))
def v130_0 : List Pos := [p1, p2, p3, p4, p5]
def c130_0 : XC := (.seq (.seq (.oX [.L p53 (.cells 5 q1) .v, .cl p54 54 [q53, (.c (.str [40]))] .b, .mv p55 q54 .b, .ge p55 (XL.of [.G p55 true p56 (.faddr 0 q1) .v, .o ⟨(some p57), (.l (.cell q56)), (some (p55, true)), []⟩ .v, .G p55 true p58 (.faddr 1 q1) .v, .o ⟨(some p59), (.l (.cell q58)), (some (p55, true)), []⟩ tI, .G p55 true p60 (.bin .add q59 (ci 1)) tI, .G p55 true p61 (.iaddr (.sl 3) q57 q60) .v, .G p55 true p62 (.faddr 0 q61) .v, .o ⟨(some p63), (.l (.cell q62)), (some (p55, true)), []⟩ tI, .G p55 true p64 (.bin .eql q63 (ci 5)) .b, .P p65 (.pick q55 q64 (cb false)) .b]) p65 .b]) (.cond q65 (.seq (.oX [.P p66 (.build [(kI 0), (.str []), (.str []), (.int .u32 (.ofNat 0)), (.int .u64 (.ofNat 0)), .nils, (kI 0), (kI 0)] []) .v, .al p7 (.new [(kI 0), (.str []), (.str []), (.int .u32 (.ofNat 0)), (.int .u64 (.ofNat 0)), .nils, (kI 0), (kI 0)]), .ss 8 q7 q66]) (.seq (.oX [.mv p8 (ci 0) tI]) (.seq (.oX [.L p68 (.cells 5 q1) .v, .cl p69 55 [q68] .v, .cl p70 56 [q69] .v, .mv p67 q70 .v, .P p71 (.ext q67 0) .v, .P p72 (.ext q67 1) tI, .ss 5 q1 q71, .mv p8 q72 tI]) (.seq (.oX [.L p74 (.cells 5 q1) .v, .cl p75 60 [q74, (.c (.str [41]))] .v, .cl p76 119 [q75] .v, .mv p73 q76 .v, .P p77 (.ext q73 0) .v, .P p78 (.ext q73 1) .v, .ss 5 q1 q77, .ss 8 q7 q78]) (.seq (.ops true (XL.of [.L p79 (.cells 5 q1) .v, .mv p80 q8 tI, .P p81 (.conv (.ii .u32) q80) tW, .L p82 (.cells 8 q7) .v, .al p83 (.bsl [(kI 0), (.str []), (.str []), (.int .u32 (.ofNat 0)), (.int .u64 (.ofNat 0)), .nils, (kI 0), (kI 0)] 1 [⟨0, 8, q82⟩]), .fa p84 2 q4, .ld p85 q84 tI, .P p86 (.build [(kI 0), (.str []), (.str []), (.int .u32 (.ofNat 0)), (.int .u64 (.ofNat 0)), .nils, (kI 0), (kI 0)] [⟨0, 1, (ci 9)⟩, ⟨3, 1, q81⟩, ⟨5, 1, q83⟩, ⟨7, 1, q85⟩]) .v, .o ⟨none, (.e (.stores 5 q2 q79)), none, [⟨none, .cells 8 q7, p82⟩, ⟨none, .cell q84, p85⟩]⟩ .v, .ss 8 q3 q86])) .ret))))) .skip)) (.sO [.L p88 (.cells 5 q1) .v, .cl p89 137 [q88] .v, .mv p87 q89 .v, .P p90 (.ext q87 0) .v, .P p91 (.ext q87 1) .v, .ss 5 q1 q90, .ss 8 q5 q91] (.sj v130_1 (.block 0 (.loop v130_2 c130_2b)) c130_1)))
def c130_7 : XC := (.cond q37 (.sO [.P p38 (.build [(kI 0), (.str []), (.str []), (.int .u32 (.ofNat 0)), (.int .u64 (.ofNat 0)), .nils, (kI 0), (kI 0)] []) .v, .al p6 (.new [(kI 0), (.str []), (.str []), (.int .u32 (.ofNat 0)), (.int .u64 (.ofNat 0)), .nils, (kI 0), (kI 0)]), .ss 8 q6 q38] (.sO [.L p40 (.cells 5 q1) .v, .cl p41 55 [q40] .v, .cl p42 119 [q41] .v, .mv p39 q42 .v, .P p43 (.ext q39 0) .v, .P p44 (.ext q39 1) .v, .ss 5 q1 q43, .ss 8 q6 q44] (.seq (.ops true (XL.of [.L p45 (.cells 5 q1) .v, .fa p46 1 q4, .ld p47 q46 .s, .L p48 (.cells 8 q6) .v, .al p49 (.bsl [(kI 0), (.str []), (.str []), (.int .u32 (.ofNat 0)), (.int .u64 (.ofNat 0)), .nils, (kI 0), (kI 0)] 1 [⟨0, 8, q48⟩]), .fa p50 2 q4, .ld p51 q50 tI, .P p52 (.build [(kI 0), (.str []), (.str []), (.int .u32 (.ofNat 0)), (.int .u64 (.ofNat 0)), .nils, (kI 0), (kI 0)] [⟨0, 1, (ci 4)⟩, ⟨1, 1, q47⟩, ⟨5, 1, q49⟩, ⟨7, 1, q51⟩]) .v, .o ⟨none, (.e (.stores 5 q2 q45)), none, [⟨none, .cell q46, p47⟩, ⟨none, .cells 8 q6, p48⟩, ⟨none, .cell q50, p51⟩]⟩ .v, .ss 8 q3 q52])) (.s .ret)))) (.s .skip))
def l130_6 : XL := (XL.of [])
def l130_5 : XL := (XL.pre [.mv p34 q33 .b, .sp p34, .o ⟨(some p35), (.l (.cells 5 q1)), (some (p34, false)), []⟩ .v, .o ⟨(some p36), (.call (.fn 54) [q35, (.c (.str [38]))]), (some (p34, false)), []⟩ .b, .P p37 (.pick q34 (cb true) q36) .b, .jn p34 [p1, p2, p3, p4, p5, p37]] l130_6)
def l130_4 : XL := (XL.pre [.mv p30 q29 .b, .sp p30, .o ⟨(some p31), (.l (.cells 5 q1)), (some (p30, false)), []⟩ .v, .o ⟨(some p32), (.call (.fn 54) [q31, (.c (.str [42]))]), (some (p30, false)), []⟩ .b, .P p33 (.pick q30 (cb true) q32) .b, .jn p30 [p1, p2, p3, p4, p5, p33]] l130_5)
def l130_3 : XL := (XL.pre [.mv p26 q25 .b, .sp p26, .o ⟨(some p27), (.l (.cells 5 q1)), (some (p26, false)), []⟩ .v, .o ⟨(some p28), (.call (.fn 54) [q27, (.c (.str [126]))]), (some (p26, false)), []⟩ .b, .P p29 (.pick q26 (cb true) q28) .b, .jn p26 [p1, p2, p3, p4, p5, p29]] l130_4)
def c130_e : XC := (.sO [.al p1 (.box q0), .al p2 (.new [.nils, (kI 0), (kI 0), (kI 0), (kI 0)]), .al p3 (.new [(kI 0), (.str []), (.str []), (.int .u32 (.ofNat 0)), (.int .u64 (.ofNat 0)), .nils, (kI 0), (kI 0)])] (.sO [.L p10 (.cells 5 q1) .v, .cl p11 28 [q10] .v, .al p4 (.new [(kI 0), (.str []), (kI 0)]), .ss 3 q4 q11] (.sO [.fa p12 2 q4, .ld p13 q12 tI, .P p14 (.build [(kI 0), (.str []), (.str []), (.int .u32 (.ofNat 0)), (.int .u64 (.ofNat 0)), .nils, (kI 0), (kI 0)] [⟨7, 1, q13⟩]) .v, .al p5 (.new [(kI 0), (.str []), (.str []), (.int .u32 (.ofNat 0)), (.int .u64 (.ofNat 0)), .nils, (kI 0), (kI 0)]), .ss 8 q5 q14] (.seq (.seq (.oX [.fa p15 3 q1, .ld p16 q15 tI, .bn p17 .neq q16 (ci 0) .b]) (.cond q17 (.seq (.ops true (XL.of [.L p18 (.cells 5 q1) .v, .L p19 (.cells 8 q5) .v, .o ⟨none, (.e (.stores 5 q2 q18)), none, [⟨none, .cells 8 q5, p19⟩]⟩ .v, .ss 8 q3 q19])) .ret) .skip)) (.sj v130_0 (.opq false (XL.pre [.L p20 (.cells 5 q1) .v, .cl p21 54 [q20, (.c (.str [45]))] .b, .mv p22 q21 .b, .sp p22, .o ⟨(some p23), (.l (.cells 5 q1)), (some (p22, false)), []⟩ .v, .o ⟨(some p24), (.call (.fn 54) [q23, (.c (.str [33]))]), (some (p22, false)), []⟩ .b, .P p25 (.pick q22 (cb true) q24) .b, .jn p22 [p1, p2, p3, p4, p5, p25]] l130_3) c130_7) c130_0)))))
def x130 : XFn := ⟨[.v], false, [(.cells 5 p2), (.cells 8 p3)], c130_e⟩
def e130_1 (k t1 t2 t3 t5 h) := kN k [(p1, t1), (p2, t2), (p3, t3), (p5, t5)] h
def S130_1 (D : CallD) (m : Nat) (t1 t2 t3 t5 : AV) (h : HP) : Res2 :=
 cellsC 5 t1 h fun t109 =>
 cellsC 8 t5 h fun t110 =>
 stsC 5 t2 t109 h fun h36 =>
 br (againE (.stores 5 q2 q109) [⟨none, .cells 8 q5, p110⟩] (mkT [(p2, t2), (p110, t110), (p5, t5)]) h36) (
 stsC 8 t3 t110 h36 fun h37 =>
 cellsC 5 t2 h37 fun t2a =>
 cellsC 8 t3 h37 fun t3a =>
 some (.ret (.tup [t2a, t3a]) h37, .no)) none
def e130_2 (k t1 t2 t3 t5 h) := kN k [(p1, t1), (p2, t2), (p3, t3), (p5, t5)] h
def S130_2b (D : CallD) (m : Nat) (g2 : AV → AV → AV → AV → HP → Res2) (t1 t2 t3 t5 : AV) (h : HP) : Res2 :=
 cellsC 5 t1 h fun t92 =>
 cal D 54 [t92, (vS ([91] : LN))] h fun t93 h38 =>
 asB t93 fun t93a =>
 br t93a (
 let t94 := (AV.agg [(vI (Int.ofNat 0)), (vS ([] : LN)), (vS ([] : LN)), (vW (Int.ofNat 0)), (AV.int .u64 (Int.ofNat 0)), (.nils : AV), (vI (Int.ofNat 0)), (vI (Int.ofNat 0))])
 let t9 := AV.ptr (HP.nxQ h38) 0
 let h39 := HP.newQ h38 (.cells true [(kI 0), (.str []), (.str []), (.int .u32 (.ofNat 0)), (.int .u64 (.ofNat 0)), .nils, (kI 0), (kI 0)])
 stsC 8 t9 t94 h39 fun h40 =>
 cellsC 5 t1 h40 fun t96 =>
 cal D 55 [t96] h40 fun t97 h41 =>
 cal D 62 [t97] h41 fun t98 h42 =>
 extC t98 0 fun t99 =>
 extC t98 1 fun t100 =>
 stsC 5 t1 t99 h42 fun h43 =>
 stsC 8 t9 t100 h43 fun h44 =>
 cellsC 8 t5 h44 fun t101 =>
 cellsC 8 t9 h44 fun t102 =>
 obQ (evA (.bsl [(kI 0), (.str []), (.str []), (.int .u32 (.ofNat 0)), (.int .u64 (.ofNat 0)), .nils, (kI 0), (kI 0), (kI 0), (.str []), (.str []), (.int .u32 (.ofNat 0)), (.int .u64 (.ofNat 0)), .nils, (kI 0), (kI 0)] 2 [⟨0, 8, (.c t101)⟩, ⟨8, 8, (.c t102)⟩]) .leaf) fun r45 =>
 let t103 := vkV r45.2 (HP.nxQ h44)
 let h46 := HP.newQ h44 r45.1
 faC 7 t5 fun t104 =>
 ldI t104 h46 fun t105 =>
 obQ (evP (.build [(kI 0), (.str []), (.str []), (.int .u32 (.ofNat 0)), (.int .u64 (.ofNat 0)), .nils, (kI 0), (kI 0)] [⟨0, 1, (.c (vI (Int.ofNat 8)))⟩, ⟨5, 1, (.c t103)⟩, ⟨7, 1, (.c (vI t105))⟩]) .leaf) fun t106 =>
 stsC 8 t5 t106 h46 fun h47 =>
 cellsC 5 t1 h47 fun t107 =>
 cal D 60 [t107, (vS ([93] : LN))] h47 fun t108 h48 =>
 stsC 5 t1 t108 h48 fun h49 =>
 g2 t1 t2 t3 t5 h49) (
 S130_1 D m t1 t2 t3 t5 h38)
def S130_2 (D : CallD) (m : Nat) : AV → AV → AV → AV → HP → Res2 := nrec (fun _ _ _ _ _ => none) (fun _ g => S130_2b D m g) m
def e130_0 (k t1 t2 t3 t4 t5 h) := kN k [(p1, t1), (p2, t2), (p3, t3), (p4, t4), (p5, t5)] h
def S130_0 (D : CallD) (m : Nat) (t1 t2 t3 t4 t5 : AV) (h : HP) : Res2 :=
 cellsC 5 t1 h fun t53 =>
 cal D 54 [t53, (vS ([40] : LN))] h fun t54 h19 =>
 asB t54 fun t54a =>
 obB (brV t54a (
 faCV 0 t1 fun t56 =>
 cellCV t56 h19 fun t57 =>
 faCV 1 t1 fun t58 =>
 ldIV t58 h19 fun t59 =>
 let t60 := wrQ .i64 (addQ t59 (Int.ofNat 1))
 iasCV 3 t57 (vI t60) fun t61 =>
 faCV 0 t61 fun t62 =>
 ldIV t62 h19 fun t63 =>
 let t64 := eqQ t63 (Int.ofNat 5)
 some (vB t64)) (
 some (vB false))) fun t65 =>
 br t65 (
 let t66 := (AV.agg [(vI (Int.ofNat 0)), (vS ([] : LN)), (vS ([] : LN)), (vW (Int.ofNat 0)), (AV.int .u64 (Int.ofNat 0)), (.nils : AV), (vI (Int.ofNat 0)), (vI (Int.ofNat 0))])
 let t7 := AV.ptr (HP.nxQ h19) 0
 let h20 := HP.newQ h19 (.cells true [(kI 0), (.str []), (.str []), (.int .u32 (.ofNat 0)), (.int .u64 (.ofNat 0)), .nils, (kI 0), (kI 0)])
 stsC 8 t7 t66 h20 fun h21 =>
 cellsC 5 t1 h21 fun t68 =>
 cal D 55 [t68] h21 fun t69 h22 =>
 cal D 56 [t69] h22 fun t70 h23 =>
 extC t70 0 fun t71 =>
 extC t70 1 fun vt72 => asI .i64 vt72 fun t72 =>
 stsC 5 t1 t71 h23 fun h24 =>
 cellsC 5 t1 h24 fun t74 =>
 cal D 60 [t74, (vS ([41] : LN))] h24 fun t75 h25 =>
 cal D 119 [t75] h25 fun t76 h26 =>
 extC t76 0 fun t77 =>
 extC t76 1 fun t78 =>
 stsC 5 t1 t77 h26 fun h27 =>
 stsC 8 t7 t78 h27 fun h28 =>
 cellsC 5 t1 h28 fun t79 =>
 let t81 := wrapF .u32 t72
 cellsC 8 t7 h28 fun t82 =>
 obQ (evA (.bsl [(kI 0), (.str []), (.str []), (.int .u32 (.ofNat 0)), (.int .u64 (.ofNat 0)), .nils, (kI 0), (kI 0)] 1 [⟨0, 8, (.c t82)⟩]) .leaf) fun r29 =>
 let t83 := vkV r29.2 (HP.nxQ h28)
 let h30 := HP.newQ h28 r29.1
 faC 2 t4 fun t84 =>
 ldI t84 h30 fun t85 =>
 obQ (evP (.build [(kI 0), (.str []), (.str []), (.int .u32 (.ofNat 0)), (.int .u64 (.ofNat 0)), .nils, (kI 0), (kI 0)] [⟨0, 1, (.c (vI (Int.ofNat 9)))⟩, ⟨3, 1, (.c (vW t81))⟩, ⟨5, 1, (.c t83)⟩, ⟨7, 1, (.c (vI t85))⟩]) .leaf) fun t86 =>
 stsC 5 t2 t79 h30 fun h31 =>
 br (againE (.stores 5 q2 q79) [⟨none, .cells 8 q7, p82⟩, ⟨none, .cell q84, p85⟩] (mkT [(p2, t2), (p85, (vI t85)), (p84, t84), (p82, t82), (p7, t7)]) h31) (
 stsC 8 t3 t86 h31 fun h32 =>
 cellsC 5 t2 h32 fun t2a =>
 cellsC 8 t3 h32 fun t3a =>
 some (.ret (.tup [t2a, t3a]) h32, .no)) none) (
 cellsC 5 t1 h19 fun t88 =>
 cal D 137 [t88] h19 fun t89 h33 =>
 extC t89 0 fun t90 =>
 extC t89 1 fun t91 =>
 stsC 5 t1 t90 h33 fun h34 =>
 stsC 8 t5 t91 h34 fun h35 =>
 S130_2 D m t1 t2 t3 t5 h35)
def e130_6 (k t1 t2 t3 t4 t5 t37 h) := kN k [(p1, t1), (p2, t2), (p3, t3), (p4, t4), (p5, t5), (p37, (vB t37))] h
def S130_6 (D : CallD) (m : Nat) (t1 t2 t3 t4 t5 : AV) (t37 : Bool) (h : HP) : Res2 :=
 br t37 (
 let t38 := (AV.agg [(vI (Int.ofNat 0)), (vS ([] : LN)), (vS ([] : LN)), (vW (Int.ofNat 0)), (AV.int .u64 (Int.ofNat 0)), (.nils : AV), (vI (Int.ofNat 0)), (vI (Int.ofNat 0))])
 let t6 := AV.ptr (HP.nxQ h) 0
 let h51 := HP.newQ h (.cells true [(kI 0), (.str []), (.str []), (.int .u32 (.ofNat 0)), (.int .u64 (.ofNat 0)), .nils, (kI 0), (kI 0)])
 stsC 8 t6 t38 h51 fun h52 =>
 cellsC 5 t1 h52 fun t40 =>
 cal D 55 [t40] h52 fun t41 h53 =>
 cal D 119 [t41] h53 fun t42 h54 =>
 extC t42 0 fun t43 =>
 extC t42 1 fun t44 =>
 stsC 5 t1 t43 h54 fun h55 =>
 stsC 8 t6 t44 h55 fun h56 =>
 cellsC 5 t1 h56 fun t45 =>
 faC 1 t4 fun t46 =>
 ldS t46 h56 fun t47 =>
 cellsC 8 t6 h56 fun t48 =>
 obQ (evA (.bsl [(kI 0), (.str []), (.str []), (.int .u32 (.ofNat 0)), (.int .u64 (.ofNat 0)), .nils, (kI 0), (kI 0)] 1 [⟨0, 8, (.c t48)⟩]) .leaf) fun r57 =>
 let t49 := vkV r57.2 (HP.nxQ h56)
 let h58 := HP.newQ h56 r57.1
 faC 2 t4 fun t50 =>
 ldI t50 h58 fun t51 =>
 obQ (evP (.build [(kI 0), (.str []), (.str []), (.int .u32 (.ofNat 0)), (.int .u64 (.ofNat 0)), .nils, (kI 0), (kI 0)] [⟨0, 1, (.c (vI (Int.ofNat 4)))⟩, ⟨1, 1, (.c (vS t47))⟩, ⟨5, 1, (.c t49)⟩, ⟨7, 1, (.c (vI t51))⟩]) .leaf) fun t52 =>
 stsC 5 t2 t45 h58 fun h59 =>
 br (againE (.stores 5 q2 q45) [⟨none, .cell q46, p47⟩, ⟨none, .cells 8 q6, p48⟩, ⟨none, .cell q50, p51⟩] (mkT [(p2, t2), (p51, (vI t51)), (p50, t50), (p48, t48), (p6, t6), (p47, (vS t47)), (p46, t46)]) h59) (
 stsC 8 t3 t52 h59 fun h60 =>
 cellsC 5 t2 h60 fun t2a =>
 cellsC 8 t3 h60 fun t3a =>
 some (.ret (.tup [t2a, t3a]) h60, .no)) none) (
 S130_0 D m t1 t2 t3 t4 t5 h)
def e130_5 (k t1 t2 t3 t4 t5 t33 h) := kN k [(p1, t1), (p2, t2), (p3, t3), (p4, t4), (p5, t5), (p33, (vB t33))] h
def S130_5 (D : CallD) (m : Nat) (t1 t2 t3 t4 t5 : AV) (t33 : Bool) (h : HP) : Res2 :=
 br t33 (
 S130_6 D m t1 t2 t3 t4 t5 true h) (
 cellsC 5 t1 h fun t35 =>
 cal D 54 [t35, (vS ([38] : LN))] h fun t36 h61 =>
 asB t36 fun t36a =>
 S130_6 D m t1 t2 t3 t4 t5 t36a h61)
def e130_4 (k t1 t2 t3 t4 t5 t29 h) := kN k [(p1, t1), (p2, t2), (p3, t3), (p4, t4), (p5, t5), (p29, (vB t29))] h
def S130_4 (D : CallD) (m : Nat) (t1 t2 t3 t4 t5 : AV) (t29 : Bool) (h : HP) : Res2 :=
 br t29 (
 S130_5 D m t1 t2 t3 t4 t5 true h) (
 cellsC 5 t1 h fun t31 =>
 cal D 54 [t31, (vS ([42] : LN))] h fun t32 h62 =>
 asB t32 fun t32a =>
 S130_5 D m t1 t2 t3 t4 t5 t32a h62)
def e130_3 (k t1 t2 t3 t4 t5 t25 h) := kN k [(p1, t1), (p2, t2), (p3, t3), (p4, t4), (p5, t5), (p25, (vB t25))] h
def S130_3 (D : CallD) (m : Nat) (t1 t2 t3 t4 t5 : AV) (t25 : Bool) (h : HP) : Res2 :=
 br t25 (
 S130_4 D m t1 t2 t3 t4 t5 true h) (
 cellsC 5 t1 h fun t27 =>
 cal D 54 [t27, (vS ([126] : LN))] h fun t28 h63 =>
 asB t28 fun t28a =>
 S130_4 D m t1 t2 t3 t4 t5 t28a h63)
def e130_8 (k t0 h) := kN k [(p0, t0)] h
def S130_8 (D : CallD) (m : Nat) (t0 : AV) (h : HP) : Res2 :=
 let t1 := AV.ptr (HP.nxQ h) 0
 let h9 := HP.newQ h (.cells true (AV.cells t0))
 let t2 := AV.ptr (HP.nxQ h9) 0
 let h10 := HP.newQ h9 (.cells true [.nils, (kI 0), (kI 0), (kI 0), (kI 0)])
 let t3 := AV.ptr (HP.nxQ h10) 0
 let h11 := HP.newQ h10 (.cells true [(kI 0), (.str []), (.str []), (.int .u32 (.ofNat 0)), (.int .u64 (.ofNat 0)), .nils, (kI 0), (kI 0)])
 cellsC 5 t1 h11 fun t10 =>
 cal D 28 [t10] h11 fun t11 h12 =>
 let t4 := AV.ptr (HP.nxQ h12) 0
 let h13 := HP.newQ h12 (.cells true [(kI 0), (.str []), (kI 0)])
 stsC 3 t4 t11 h13 fun h14 =>
 let t12 := (AV.ptr (HP.nxQ h12) (Nat.add 0 2))
 ldI t12 h14 fun t13 =>
 let t14 := (AV.agg [(vI (Int.ofNat 0)), (vS ([] : LN)), (vS ([] : LN)), (vW (Int.ofNat 0)), (AV.int .u64 (Int.ofNat 0)), (.nils : AV), (vI (Int.ofNat 0)), (vI t13)])
 let t5 := AV.ptr (HP.nxQ h14) 0
 let h15 := HP.newQ h14 (.cells true [(kI 0), (.str []), (.str []), (.int .u32 (.ofNat 0)), (.int .u64 (.ofNat 0)), .nils, (kI 0), (kI 0)])
 stsC 8 t5 t14 h15 fun h16 =>
 let t15 := (AV.ptr (HP.nxQ h) (Nat.add 0 3))
 ldI t15 h16 fun t16 =>
 let t17 := notQ (eqQ t16 (Int.ofNat 0))
 br t17 (
 cellsC 5 t1 h16 fun t18 =>
 cellsC 8 t5 h16 fun t19 =>
 stsC 5 t2 t18 h16 fun h17 =>
 br (againE (.stores 5 q2 q18) [⟨none, .cells 8 q5, p19⟩] (mkT [(p2, t2), (p19, t19), (p5, t5)]) h17) (
 stsC 8 t3 t19 h17 fun h18 =>
 cellsC 5 t2 h18 fun t2a =>
 cellsC 8 t3 h18 fun t3a =>
 some (.ret (.tup [t2a, t3a]) h18, .no)) none) (
 cellsC 5 t1 h16 fun t20 =>
 cal D 54 [t20, (vS ([45] : LN))] h16 fun t21 h50 =>
 asB t21 fun t21a =>
 br t21a (
 S130_3 D m t1 t2 t3 t4 t5 true h50) (
 cellsC 5 t1 h50 fun t23 =>
 cal D 54 [t23, (vS ([33] : LN))] h50 fun t24 h64 =>
 asB t24 fun t24a =>
 S130_3 D m t1 t2 t3 t4 t5 t24a h64))
def S130 : SFn := fun D m args h u => nou u <| popV args fun t0 args => endA args (S130_8 D m t0 h)
theorem T130_1 (hE : FX x130 D m E) : S130_1 D m = e130_1 (E c130_1 []) := by unfold S130_1; rw [hE c130_1]; kernel_rfl
theorem T130_2b (hE : FX x130 D m E) (G2) : S130_2b D m (e130_2 G2) = e130_2 (E c130_2b [.lp v130_2 G2, .blk 0, .sj v130_1 c130_1]) := by unfold S130_2b; rw [T130_1 hE, hE c130_2b]; kernel_rfl
theorem T130_2 (hE : FX x130 D m E) : S130_2 D m = e130_2 (nrec (fun _ => none) (fun _ G2 st => E c130_2b [.lp v130_2 G2, .blk 0, .sj v130_1 c130_1] st) m) :=
  nrec_emb e130_2 (fun _ _ _ _ _ => none) (fun g => S130_2b D m g) (fun G2 st => E c130_2b [.lp v130_2 G2, .blk 0, .sj v130_1 c130_1] st) rfl (fun g => T130_2b hE g) m
theorem T130_0 (hE : FX x130 D m E) : S130_0 D m = e130_0 (E c130_0 []) := by unfold S130_0; rw [T130_2 hE, hE c130_0]; kernel_rfl
theorem T130_6 (hE : FX x130 D m E) : S130_6 D m = e130_6 (E (.opq false l130_6 c130_7) [.sj v130_0 c130_0]) := by unfold S130_6; rw [T130_0 hE, hE (.opq false l130_6 c130_7)]; kernel_rfl
theorem T130_5 (hE : FX x130 D m E) : S130_5 D m = e130_5 (E (.opq false l130_5 c130_7) [.sj v130_0 c130_0]) := by unfold S130_5; rw [T130_6 hE, hE (.opq false l130_5 c130_7)]; kernel_rfl
theorem T130_4 (hE : FX x130 D m E) : S130_4 D m = e130_4 (E (.opq false l130_4 c130_7) [.sj v130_0 c130_0]) := by unfold S130_4; rw [T130_5 hE, hE (.opq false l130_4 c130_7)]; kernel_rfl
theorem T130_3 (hE : FX x130 D m E) : S130_3 D m = e130_3 (E (.opq false l130_3 c130_7) [.sj v130_0 c130_0]) := by unfold S130_3; rw [T130_4 hE, hE (.opq false l130_3 c130_7)]; kernel_rfl
theorem T130_8 (hE : FX x130 D m E) : S130_8 D m = e130_8 (E c130_e []) := by unfold S130_8; rw [T130_3 hE, hE c130_e]; kernel_rfl
theorem X130 : XTie S130 x130 := X_of fun D m E hE args h u => by unfold S130; rw [T130_8 hE]; kernel_rfl
end
end Go.Proofs.YtdeeainihfnbdaaGreatDoor.Sx
