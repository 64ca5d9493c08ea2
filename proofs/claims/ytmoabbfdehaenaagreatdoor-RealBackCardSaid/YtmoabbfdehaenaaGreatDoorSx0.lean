/- Functions, printed by a program of ours: their code, what they do, and that it is so. -/
import Derived.Test.YtmoabbfdehaenaaGreatDoorSp
set_option maxRecDepth 8000
set_option linter.unusedVariables false
namespace Go.Proofs.YtmoabbfdehaenaaGreatDoor.Sx
open Go Go.Proofs.YtmoabbfdehaenaaGreatDoor.Ev
set_option linter.unusedSectionVars false
noncomputable section
variable [Rho]
variable {D : CallD} {m : Nat} {E : XE}
/- 3 -/
def c3_5 : XC := (.s .ret)
def l3_4 : XL := (XL.of [.mv p4 q40 .b])
def l3_3 : XL := (XL.pre [.mv p34 q33 .b, .sp p34, .G p34 true p35 (.mov q1) tW, .o ⟨(some p36), (.call (.fn 14) [q35]), (some (p34, true)), []⟩ (.i .u64), .G p34 true p37 (.mov q1) tW, .o ⟨(some p38), (.call (.fn 15) [q37]), (some (p34, true)), []⟩ (.i .u64), .G p34 true p39 (.bin .eql q36 q38) .b, .P p40 (.pick q34 q39 (cb false)) .b, .jn p34 [p40]] l3_4)
def l3_2 : XL := (XL.pre [.mv p27 q26 .b, .sp p27, .G p27 true p28 (.mov q0) (.i .u64), .o ⟨(some p29), (.call (.fn 12) [q28]), (some (p27, true)), []⟩ .s, .G p27 true p30 (.mov q0) (.i .u64), .o ⟨(some p31), (.call (.fn 13) [q30]), (some (p27, true)), []⟩ .s, .G p27 true p32 (.bin .eql q29 q31) .b, .P p33 (.pick q27 q32 (cb false)) .b, .jn p27 [p1, p33]] l3_3)
def l3_1 : XL := (XL.pre [.mv p20 q19 .b, .sp p20, .G p20 true p21 (.mov q0) (.i .u64), .o ⟨(some p22), (.call (.fn 10) [q21]), (some (p20, true)), []⟩ tW, .G p20 true p23 (.mov q0) (.i .u64), .o ⟨(some p24), (.call (.fn 11) [q23]), (some (p20, true)), []⟩ tW, .G p20 true p25 (.bin .eql q22 q24) .b, .P p26 (.pick q20 q25 (cb false)) .b, .jn p20 [p0, p1, p26]] l3_2)
def l3_0 : XL := (XL.pre [.mv p13 q12 .b, .sp p13, .G p13 true p14 (.mov q0) (.i .u64), .o ⟨(some p15), (.call (.fn 8) [q14]), (some (p13, true)), []⟩ (.i .u64), .G p13 true p16 (.mov q0) (.i .u64), .o ⟨(some p17), (.call (.fn 9) [q16]), (some (p13, true)), []⟩ (.i .u64), .G p13 true p18 (.bin .eql q15 q17) .b, .P p19 (.pick q13 q18 (cb false)) .b, .jn p13 [p0, p1, p19]] l3_1)
def c3_e : XC := (.sO [.mv p4 (cb false) .b] (.opq false (XL.pre [.cl p5 5 [] .b, .mv p6 q5 .b, .sp p6, .G p6 true p7 (.mov q0) (.i .u64), .o ⟨(some p8), (.call (.fn 6) [q7]), (some (p6, true)), []⟩ (.i .u64), .G p6 true p9 (.mov q0) (.i .u64), .o ⟨(some p10), (.call (.fn 7) [q9]), (some (p6, true)), []⟩ (.i .u64), .G p6 true p11 (.bin .eql q8 q10) .b, .P p12 (.pick q6 q11 (cb false)) .b, .jn p6 [p0, p1, p12]] l3_0) c3_5))
def x3 : XFn := ⟨[(.i .u64), tW], false, [(.tmp p4)], c3_e⟩
def e3_4 (k t40 h) := kN k [(p40, (vB t40))] h
def S3_4 (D : CallD) (m : Nat) (t40 : Bool) (h : HP) : Res2 :=
 some (.ret (vB t40) h, .no)
def e3_3 (k t1 t33 h) := kN k [(p1, (vW t1)), (p33, (vB t33))] h
def S3_3 (D : CallD) (m : Nat) (t1 : Int) (t33 : Bool) (h : HP) : Res2 :=
 br t33 (
 cal D 14 [(vW t1)] h fun t36 h16 =>
 asI .u64 t36 fun t36a =>
 cal D 15 [(vW t1)] h16 fun t38 h17 =>
 asI .u64 t38 fun t38a =>
 let t39 := eqQ t36a t38a
 S3_4 D m t39 h17) (
 S3_4 D m false h)
def e3_2 (k t0 t1 t26 h) := kN k [(p0, (AV.int .u64 t0)), (p1, (vW t1)), (p26, (vB t26))] h
def S3_2 (D : CallD) (m : Nat) (t0 t1 : Int) (t26 : Bool) (h : HP) : Res2 :=
 br t26 (
 cal D 12 [(AV.int .u64 t0)] h fun t29 h14 =>
 asS t29 fun t29a =>
 cal D 13 [(AV.int .u64 t0)] h14 fun t31 h15 =>
 asS t31 fun t31a =>
 let t32 := eqL t29a t31a
 S3_3 D m t1 t32 h15) (
 S3_3 D m t1 false h)
def e3_1 (k t0 t1 t19 h) := kN k [(p0, (AV.int .u64 t0)), (p1, (vW t1)), (p19, (vB t19))] h
def S3_1 (D : CallD) (m : Nat) (t0 t1 : Int) (t19 : Bool) (h : HP) : Res2 :=
 br t19 (
 cal D 10 [(AV.int .u64 t0)] h fun t22 h12 =>
 asI .u32 t22 fun t22a =>
 cal D 11 [(AV.int .u64 t0)] h12 fun t24 h13 =>
 asI .u32 t24 fun t24a =>
 binC .eql (vW t22a) (vW t24a) fun vt25 => asB vt25 fun t25 =>
 S3_2 D m t0 t1 t25 h13) (
 S3_2 D m t0 t1 false h)
def e3_0 (k t0 t1 t12 h) := kN k [(p0, (AV.int .u64 t0)), (p1, (vW t1)), (p12, (vB t12))] h
def S3_0 (D : CallD) (m : Nat) (t0 t1 : Int) (t12 : Bool) (h : HP) : Res2 :=
 br t12 (
 cal D 8 [(AV.int .u64 t0)] h fun t15 h10 =>
 asI .u64 t15 fun t15a =>
 cal D 9 [(AV.int .u64 t0)] h10 fun t17 h11 =>
 asI .u64 t17 fun t17a =>
 let t18 := eqQ t15a t17a
 S3_1 D m t0 t1 t18 h11) (
 S3_1 D m t0 t1 false h)
def e3_6 (k t0 t1 h) := kN k [(p0, (AV.int .u64 t0)), (p1, (vW t1))] h
def S3_6 (D : CallD) (m : Nat) (t0 t1 : Int) (h : HP) : Res2 :=
 cal D 5 [] h fun t5 h7 =>
 asB t5 fun t5a =>
 br t5a (
 cal D 6 [(AV.int .u64 t0)] h7 fun t8 h8 =>
 asI .u64 t8 fun t8a =>
 cal D 7 [(AV.int .u64 t0)] h8 fun t10 h9 =>
 asI .u64 t10 fun t10a =>
 let t11 := eqQ t8a t10a
 S3_0 D m t0 t1 t11 h9) (
 S3_0 D m t0 t1 false h7)
def S3 : SFn := fun D m args h u => nou u <| popI .u64 args fun t0 args => popI .u32 args fun t1 args => endA args (S3_6 D m t0 t1 h)
theorem T3_4 (hE : FX x3 D m E) : S3_4 D m = e3_4 (E (.opq false l3_4 c3_5) []) := by unfold S3_4; rw [hE (.opq false l3_4 c3_5)]; kernel_rfl
theorem T3_3 (hE : FX x3 D m E) : S3_3 D m = e3_3 (E (.opq false l3_3 c3_5) []) := by unfold S3_3; rw [T3_4 hE, hE (.opq false l3_3 c3_5)]; kernel_rfl
theorem T3_2 (hE : FX x3 D m E) : S3_2 D m = e3_2 (E (.opq false l3_2 c3_5) []) := by unfold S3_2; rw [T3_3 hE, hE (.opq false l3_2 c3_5)]; kernel_rfl
theorem T3_1 (hE : FX x3 D m E) : S3_1 D m = e3_1 (E (.opq false l3_1 c3_5) []) := by unfold S3_1; rw [T3_2 hE, hE (.opq false l3_1 c3_5)]; kernel_rfl
theorem T3_0 (hE : FX x3 D m E) : S3_0 D m = e3_0 (E (.opq false l3_0 c3_5) []) := by unfold S3_0; rw [T3_1 hE, hE (.opq false l3_0 c3_5)]; kernel_rfl
theorem T3_6 (hE : FX x3 D m E) : S3_6 D m = e3_6 (E c3_e []) := by unfold S3_6; rw [T3_0 hE, hE c3_e]; kernel_rfl
theorem X3 : XTie S3 x3 := X_of fun D m E hE args h u => by unfold S3; rw [T3_6 hE]; kernel_rfl
/- 4 -/
def c4_4 : XC := (.s .ret)
def l4_3 : XL := (XL.of [.mv p4 q46 .b])
def l4_2 : XL := (XL.pre [.mv p39 q38 .b, .sp p39, .G p39 true p40 (.mov q0) (.i .u64), .o ⟨(some p41), (.call (.fn 6) [q40]), (some (p39, true)), []⟩ (.i .u64), .o ⟨(some p42), (.call (.fn 6) [q41]), (some (p39, true)), []⟩ (.i .u64), .G p39 true p43 (.mov q0) (.i .u64), .o ⟨(some p44), (.call (.fn 6) [q43]), (some (p39, true)), []⟩ (.i .u64), .G p39 true p45 (.bin .eql q42 q44) .b, .P p46 (.pick q39 q45 (cb false)) .b, .jn p39 [p46]] l4_3)
def l4_1 : XL := (XL.pre [.mv p31 q30 .b, .sp p31, .G p31 true p32 (.mov q0) (.i .u64), .o ⟨(some p33), (.call (.fn 8) [q32]), (some (p31, true)), []⟩ (.i .u64), .o ⟨(some p34), (.call (.fn 8) [q33]), (some (p31, true)), []⟩ (.i .u64), .G p31 true p35 (.mov q0) (.i .u64), .o ⟨(some p36), (.call (.fn 6) [q35]), (some (p31, true)), []⟩ (.i .u64), .G p31 true p37 (.bin .eql q34 q36) .b, .P p38 (.pick q31 q37 (cb false)) .b, .jn p31 [p0, p38]] l4_2)
def l4_0 : XL := (XL.pre [.mv p21 q20 .b, .ge p21 (XL.of [.G p21 true p22 (.mov q6) tI, .G p21 true p23 (.bin .eql q22 (ci 0)) .b, .P p24 (.pick q21 q23 (cb false)) .b]) p24 .b, .mv p25 q24 .b, .sp p25, .G p25 true p26 (.mov q5) (.i .u64), .G p25 true p27 (.mov q0) (.i .u64), .o ⟨(some p28), (.call (.fn 6) [q27]), (some (p25, true)), []⟩ (.i .u64), .G p25 true p29 (.bin .eql q26 q28) .b, .P p30 (.pick q25 q29 (cb false)) .b, .jn p25 [p0, p30]] l4_1)
def c4_e : XC := (.sO [.mv p4 (cb false) .b] (.sO [.mv p8 q0 (.i .u64), .cl p9 12 [q8] .s, .cl p10 16 [q9] .v, .mv p7 q10 .v, .P p11 (.ext q7 0) (.i .u64), .P p12 (.ext q7 1) tI, .mv p5 q11 (.i .u64), .mv p6 q12 tI] (.opq false (XL.pre [.cl p13 5 [] .b, .mv p14 q13 .b, .sp p14, .G p14 true p15 (.mov q1) tW, .o ⟨(some p16), (.call (.fn 14) [q15]), (some (p14, true)), []⟩ (.i .u64), .o ⟨(some p17), (.call (.fn 10) [q16]), (some (p14, true)), []⟩ tW, .G p14 true p18 (.mov q1) tW, .G p14 true p19 (.bin .eql q17 q18) .b, .P p20 (.pick q14 q19 (cb false)) .b, .jn p14 [p0, p5, p6, p20]] l4_0) c4_4)))
def x4 : XFn := ⟨[(.i .u64), tW], false, [(.tmp p4)], c4_e⟩
def e4_3 (k t46 h) := kN k [(p46, (vB t46))] h
def S4_3 (D : CallD) (m : Nat) (t46 : Bool) (h : HP) : Res2 :=
 some (.ret (vB t46) h, .no)
def e4_2 (k t0 t38 h) := kN k [(p0, (AV.int .u64 t0)), (p38, (vB t38))] h
def S4_2 (D : CallD) (m : Nat) (t0 : Int) (t38 : Bool) (h : HP) : Res2 :=
 br t38 (
 cal D 6 [(AV.int .u64 t0)] h fun t41 h15 =>
 asI .u64 t41 fun t41a =>
 cal D 6 [(AV.int .u64 t41a)] h15 fun t42 h16 =>
 asI .u64 t42 fun t42a =>
 cal D 6 [(AV.int .u64 t0)] h16 fun t44 h17 =>
 asI .u64 t44 fun t44a =>
 let t45 := eqQ t42a t44a
 S4_3 D m t45 h17) (
 S4_3 D m false h)
def e4_1 (k t0 t30 h) := kN k [(p0, (AV.int .u64 t0)), (p30, (vB t30))] h
def S4_1 (D : CallD) (m : Nat) (t0 : Int) (t30 : Bool) (h : HP) : Res2 :=
 br t30 (
 cal D 8 [(AV.int .u64 t0)] h fun t33 h12 =>
 asI .u64 t33 fun t33a =>
 cal D 8 [(AV.int .u64 t33a)] h12 fun t34 h13 =>
 asI .u64 t34 fun t34a =>
 cal D 6 [(AV.int .u64 t0)] h13 fun t36 h14 =>
 asI .u64 t36 fun t36a =>
 let t37 := eqQ t34a t36a
 S4_2 D m t0 t37 h14) (
 S4_2 D m t0 false h)
def e4_0 (k t0 t5 t6 t20 h) := kN k [(p0, (AV.int .u64 t0)), (p5, (AV.int .u64 t5)), (p6, (vI t6)), (p20, (vB t20))] h
def S4_0 (D : CallD) (m : Nat) (t0 t5 t6 : Int) (t20 : Bool) (h : HP) : Res2 :=
 obB (brV t20 (
 let t23 := eqQ t6 (Int.ofNat 0)
 some (vB t23)) (
 some (vB false))) fun t24 =>
 br t24 (
 cal D 6 [(AV.int .u64 t0)] h fun t28 h11 =>
 asI .u64 t28 fun t28a =>
 let t29 := eqQ t5 t28a
 S4_1 D m t0 t29 h11) (
 S4_1 D m t0 false h)
def e4_5 (k t0 t1 h) := kN k [(p0, (AV.int .u64 t0)), (p1, (vW t1))] h
def S4_5 (D : CallD) (m : Nat) (t0 t1 : Int) (h : HP) : Res2 :=
 cal D 12 [(AV.int .u64 t0)] h fun t9 h6 =>
 asS t9 fun t9a =>
 cal D 16 [(vS t9a)] h6 fun t10 h7 =>
 extC t10 0 fun vt11 => asI .u64 vt11 fun t11 =>
 extC t10 1 fun vt12 => asI .i64 vt12 fun t12 =>
 cal D 5 [] h7 fun t13 h8 =>
 asB t13 fun t13a =>
 br t13a (
 cal D 14 [(vW t1)] h8 fun t16 h9 =>
 asI .u64 t16 fun t16a =>
 cal D 10 [(AV.int .u64 t16a)] h9 fun t17 h10 =>
 asI .u32 t17 fun t17a =>
 binC .eql (vW t17a) (vW t1) fun vt19 => asB vt19 fun t19 =>
 S4_0 D m t0 t11 t12 t19 h10) (
 S4_0 D m t0 t11 t12 false h8)
def S4 : SFn := fun D m args h u => nou u <| popI .u64 args fun t0 args => popI .u32 args fun t1 args => endA args (S4_5 D m t0 t1 h)
theorem T4_3 (hE : FX x4 D m E) : S4_3 D m = e4_3 (E (.opq false l4_3 c4_4) []) := by unfold S4_3; rw [hE (.opq false l4_3 c4_4)]; kernel_rfl
theorem T4_2 (hE : FX x4 D m E) : S4_2 D m = e4_2 (E (.opq false l4_2 c4_4) []) := by unfold S4_2; rw [T4_3 hE, hE (.opq false l4_2 c4_4)]; kernel_rfl
theorem T4_1 (hE : FX x4 D m E) : S4_1 D m = e4_1 (E (.opq false l4_1 c4_4) []) := by unfold S4_1; rw [T4_2 hE, hE (.opq false l4_1 c4_4)]; kernel_rfl
theorem T4_0 (hE : FX x4 D m E) : S4_0 D m = e4_0 (E (.opq false l4_0 c4_4) []) := by unfold S4_0; rw [T4_1 hE, hE (.opq false l4_0 c4_4)]; kernel_rfl
theorem T4_5 (hE : FX x4 D m E) : S4_5 D m = e4_5 (E c4_e []) := by unfold S4_5; rw [T4_0 hE, hE c4_e]; kernel_rfl
theorem X4 : XTie S4 x4 := X_of fun D m E hE args h u => by unfold S4; rw [T4_5 hE]; kernel_rfl
/- 5 -/
def c5_1 : XC := (.s .ret)
def l5_0 : XL := (XL.of [.mv p0 q30 .b])
def c5_e : XC := (.sO [.mv p0 (cb false) .b] (.sO [.cl p6 17 [(.c (.str [49, 46, 53, 101, 49]))] .v, .mv p5 q6 .v, .P p7 (.ext q5 0) (.i .u64), .P p8 (.ext q5 1) tI, .mv p1 q7 (.i .u64), .mv p2 q8 tI] (.sO [.cl p10 18 [(ci 48), (.c (.int .u64 (.ofNat 0))), (.c (.int .u64 (.ofNat 0)))] .v, .mv p9 q10 .v, .P p11 (.ext q9 0) (.i .u64), .P p12 (.ext q9 1) tI, .mv p3 q11 (.i .u64), .mv p4 q12 tI] (.opq false (XL.pre [.mv p13 q2 tI, .bn p14 .eql q13 (ci 0) .b, .mv p15 q14 .b, .ge p15 (XL.of [.G p15 true p16 (.mov q1) (.i .u64), .G p15 true p17 (.bin .eql q16 (.c (.int .u64 (.ofNat 4624633867356078080)))) .b, .P p18 (.pick q15 q17 (cb false)) .b]) p18 .b, .mv p19 q18 .b, .ge p19 (XL.of [.G p19 true p20 (.mov q4) tI, .G p19 true p21 (.bin .eql q20 (ci 0)) .b, .P p22 (.pick q19 q21 (cb false)) .b]) p22 .b, .mv p23 q22 .b, .ge p23 (XL.of [.G p23 true p24 (.mov q3) (.i .u64), .G p23 true p25 (.bin .eql q24 (.c (.int .u64 (.ofNat 9221120237041090560)))) .b, .P p26 (.pick q23 q25 (cb false)) .b]) p26 .b, .mv p27 q26 .b, .sp p27, .o ⟨(some p28), (.call (.fn 10) [(.c (.int .u64 (.ofNat 18442240474082181120)))]), (some (p27, true)), []⟩ tW, .G p27 true p29 (.bin .eql q28 (.c (.int .u32 (.ofNat 2147483648)))) .b, .P p30 (.pick q27 q29 (cb false)) .b, .jn p27 [p30]] l5_0) c5_1))))
def x5 : XFn := ⟨[], false, [(.tmp p0)], c5_e⟩
def e5_0 (k t30 h) := kN k [(p30, (vB t30))] h
def S5_0 (D : CallD) (m : Nat) (t30 : Bool) (h : HP) : Res2 :=
 some (.ret (vB t30) h, .no)
def e5_2 (k h) := kN k [] h
def S5_2 (D : CallD) (m : Nat) (h : HP) : Res2 :=
 cal D 17 [(vS ([49, 46, 53, 101, 49] : LN))] h fun t6 h3 =>
 extC t6 0 fun vt7 => asI .u64 vt7 fun t7 =>
 extC t6 1 fun vt8 => asI .i64 vt8 fun t8 =>
 cal D 18 [(vI (Int.ofNat 48)), (AV.int .u64 (Int.ofNat 0)), (AV.int .u64 (Int.ofNat 0))] h3 fun t10 h4 =>
 extC t10 0 fun vt11 => asI .u64 vt11 fun t11 =>
 extC t10 1 fun vt12 => asI .i64 vt12 fun t12 =>
 let t14 := eqQ t8 (Int.ofNat 0)
 obB (brV t14 (
 let t17 := eqQ t7 (Int.ofNat 4624633867356078080)
 some (vB t17)) (
 some (vB false))) fun t18 =>
 obB (brV t18 (
 let t21 := eqQ t12 (Int.ofNat 0)
 some (vB t21)) (
 some (vB false))) fun t22 =>
 obB (brV t22 (
 let t25 := eqQ t11 (Int.ofNat 9221120237041090560)
 some (vB t25)) (
 some (vB false))) fun t26 =>
 br t26 (
 cal D 10 [(AV.int .u64 (Int.ofNat 18442240474082181120))] h4 fun t28 h5 =>
 asI .u32 t28 fun t28a =>
 binC .eql (vW t28a) (vW (Int.ofNat 2147483648)) fun vt29 => asB vt29 fun t29 =>
 S5_0 D m t29 h5) (
 S5_0 D m false h4)
def S5 : SFn := fun D m args h u => nou u <| endA args (S5_2 D m h)
theorem T5_0 (hE : FX x5 D m E) : S5_0 D m = e5_0 (E (.opq false l5_0 c5_1) []) := by unfold S5_0; rw [hE (.opq false l5_0 c5_1)]; kernel_rfl
theorem T5_2 (hE : FX x5 D m E) : S5_2 D m = e5_2 (E c5_e []) := by unfold S5_2; rw [T5_0 hE, hE c5_e]; kernel_rfl
theorem X5 : XTie S5 x5 := X_of fun D m E hE args h u => by unfold S5; rw [T5_2 hE]; kernel_rfl
/- 6 -/
def c6_e : XC := (.sO [.mv p2 (.c (.int .u64 (.ofNat 0))) (.i .u64)] (.sO [.mv p3 q0 (.i .u64), .cl p4 20 [q3] .v, .cl p5 19 [q4] (.i .u64), .mv p2 q5 (.i .u64)] (.s .ret)))
def x6 : XFn := ⟨[(.i .u64)], false, [(.tmp p2)], c6_e⟩
def e6_0 (k t0 h) := kN k [(p0, (AV.int .u64 t0))] h
def S6_0 (D : CallD) (m : Nat) (t0 : Int) (h : HP) : Res2 :=
 cal D 20 [(AV.int .u64 t0)] h fun t4 h1 =>
 cal D 19 [t4] h1 fun t5 h2 =>
 asI .u64 t5 fun t5a =>
 some (.ret (AV.int .u64 t5a) h2, .no)
def S6 : SFn := fun D m args h u => nou u <| popI .u64 args fun t0 args => endA args (S6_0 D m t0 h)
theorem T6_0 (hE : FX x6 D m E) : S6_0 D m = e6_0 (E c6_e []) := by unfold S6_0; rw [hE c6_e]; kernel_rfl
theorem X6 : XTie S6 x6 := X_of fun D m E hE args h u => by unfold S6; rw [T6_0 hE]; kernel_rfl
/- 7 -/
def c7_e : XC := (.sO [.mv p2 (.c (.int .u64 (.ofNat 0))) (.i .u64)] (.seq (.seq (.oX [.mv p3 q0 (.i .u64), .cl p4 21 [q3] .b]) (.cond q4 (.seq (.oX [.mv p2 (.c (.int .u64 (.ofNat 9221120237041090560))) (.i .u64)]) .ret) .skip)) (.sO [.mv p5 q0 (.i .u64), .mv p2 q5 (.i .u64)] (.s .ret))))
def x7 : XFn := ⟨[(.i .u64)], false, [(.tmp p2)], c7_e⟩
def e7_0 (k t0 h) := kN k [(p0, (AV.int .u64 t0))] h
def S7_0 (D : CallD) (m : Nat) (t0 : Int) (h : HP) : Res2 :=
 cal D 21 [(AV.int .u64 t0)] h fun t4 h1 =>
 asB t4 fun t4a =>
 br t4a (
 some (.ret (AV.int .u64 (Int.ofNat 9221120237041090560)) h1, .no)) (
 some (.ret (AV.int .u64 t0) h1, .no))
def S7 : SFn := fun D m args h u => nou u <| popI .u64 args fun t0 args => endA args (S7_0 D m t0 h)
theorem T7_0 (hE : FX x7 D m E) : S7_0 D m = e7_0 (E c7_e []) := by unfold S7_0; rw [hE c7_e]; kernel_rfl
theorem X7 : XTie S7 x7 := X_of fun D m E hE args h u => by unfold S7; rw [T7_0 hE]; kernel_rfl
/- 8 -/
def c8_e : XC := (.sO [.mv p2 (.c (.int .u64 (.ofNat 0))) (.i .u64)] (.sO [.mv p3 q0 (.i .u64), .cl p4 20 [q3] .v, .mv p5 q0 (.i .u64), .bn p6 .xor q5 (.c (.int .u64 (.ofNat 9223372036854775808))) (.i .u64), .cl p7 20 [q6] .v, .cl p8 22 [q4, q7] .v, .cl p9 19 [q8] (.i .u64), .mv p2 q9 (.i .u64)] (.s .ret)))
def x8 : XFn := ⟨[(.i .u64)], false, [(.tmp p2)], c8_e⟩
def e8_0 (k t0 h) := kN k [(p0, (AV.int .u64 t0))] h
def S8_0 (D : CallD) (m : Nat) (t0 : Int) (h : HP) : Res2 :=
 cal D 20 [(AV.int .u64 t0)] h fun t4 h1 =>
 obI .u64 (intBin .xor .u64 t0 (Int.ofNat 9223372036854775808)) fun t6 =>
 cal D 20 [(AV.int .u64 t6)] h1 fun t7 h2 =>
 cal D 22 [t4, t7] h2 fun t8 h3 =>
 cal D 19 [t8] h3 fun t9 h4 =>
 asI .u64 t9 fun t9a =>
 some (.ret (AV.int .u64 t9a) h4, .no)
def S8 : SFn := fun D m args h u => nou u <| popI .u64 args fun t0 args => endA args (S8_0 D m t0 h)
theorem T8_0 (hE : FX x8 D m E) : S8_0 D m = e8_0 (E c8_e []) := by unfold S8_0; rw [hE c8_e]; kernel_rfl
theorem X8 : XTie S8 x8 := X_of fun D m E hE args h u => by unfold S8; rw [T8_0 hE]; kernel_rfl
/- 9 -/
def c9_e : XC := (.sO [.mv p2 (.c (.int .u64 (.ofNat 0))) (.i .u64)] (.seq (.seq (.oX [.mv p6 q0 (.i .u64), .cl p7 21 [q6] .b]) (.cond q7 (.seq (.oX [.mv p2 (.c (.int .u64 (.ofNat 9221120237041090560))) (.i .u64)]) .ret) .skip)) (.sO [.mv p9 q0 (.i .u64), .cl p10 23 [q9] .v, .mv p8 q10 .v, .P p11 (.ext q8 0) (.i .u64), .P p12 (.ext q8 1) (.i .u64), .P p13 (.ext q8 2) (.i .u64), .mv p3 q11 (.i .u64), .mv p4 q12 (.i .u64), .mv p5 q13 (.i .u64)] (.seq (.seq (.oX [.mv p14 q3 (.i .u64), .bn p15 .eql q14 (.c (.int .u64 (.ofNat 1))) .b]) (.cond q15 (.seq (.oX [.mv p16 q0 (.i .u64), .bn p17 .sub q16 (.c (.int .u64 (.ofNat 9223372036854775808))) (.i .u64), .mv p2 q17 (.i .u64)]) .ret) .skip)) (.sO [.mv p18 q0 (.i .u64), .bn p19 .add q18 (.c (.int .u64 (.ofNat 9223372036854775808))) (.i .u64), .mv p2 q19 (.i .u64)] (.s .ret))))))
def x9 : XFn := ⟨[(.i .u64)], false, [(.tmp p2)], c9_e⟩
def e9_0 (k t0 h) := kN k [(p0, (AV.int .u64 t0))] h
def S9_0 (D : CallD) (m : Nat) (t0 : Int) (h : HP) : Res2 :=
 cal D 21 [(AV.int .u64 t0)] h fun t7 h1 =>
 asB t7 fun t7a =>
 br t7a (
 some (.ret (AV.int .u64 (Int.ofNat 9221120237041090560)) h1, .no)) (
 cal D 23 [(AV.int .u64 t0)] h1 fun t10 h2 =>
 extC t10 0 fun vt11 => asI .u64 vt11 fun t11 =>
 extC t10 1 fun vt12 => asI .u64 vt12 fun t12 =>
 extC t10 2 fun vt13 => asI .u64 vt13 fun t13 =>
 let t15 := eqQ t11 (Int.ofNat 1)
 br t15 (
 let t17 := wrQ .u64 (t0 - (Int.ofNat 9223372036854775808))
 some (.ret (AV.int .u64 t17) h2, .no)) (
 let t19 := wrQ .u64 (addQ t0 (Int.ofNat 9223372036854775808))
 some (.ret (AV.int .u64 t19) h2, .no)))
def S9 : SFn := fun D m args h u => nou u <| popI .u64 args fun t0 args => endA args (S9_0 D m t0 h)
theorem T9_0 (hE : FX x9 D m E) : S9_0 D m = e9_0 (E c9_e []) := by unfold S9_0; rw [hE c9_e]; kernel_rfl
theorem X9 : XTie S9 x9 := X_of fun D m E hE args h u => by unfold S9; rw [T9_0 hE]; kernel_rfl
/- 10 -/
def c10_e : XC := (.sO [.mv p2 (.c (.int .u32 (.ofNat 0))) tW] (.sO [.mv p4 q0 (.i .u64), .cl p5 20 [q4] .v, .cl p6 24 [q5] .v, .mv p3 q6 .v] (.seq (.block 0 (.seq (.oX [.mv p8 q3 .v, .cl p9 25 [q8] .b, .mv p10 q9 .b, .ge p10 (XL.of [.G p10 false p11 (.mov q3) .v, .G p10 false p12 (.bin .gtr q11 (.c (.flt .f64 4746794007244308480))) .b, .P p13 (.pick q10 (cb true) q12) .b]) p13 .b, .mv p7 q13 .b]) (.cond q7 (.seq (.oX [.mv p2 (.c (.int .u32 (.ofNat 2147483647))) tW]) .ret) (.seq (.oX [.mv p15 q3 .v, .bn p16 .lss q15 (.c (.flt .f64 13970166044103278592)) .b, .mv p14 q16 .b]) (.cond q14 (.seq (.oX [.mv p2 (.c (.int .u32 (.ofNat 2147483648))) tW]) .ret) .skip))))) (.sO [.mv p17 q3 .v, .P p18 (.conv (.fi .i64) q17) tI, .cl p19 26 [q18] tW, .mv p2 q19 tW] (.s .ret)))))
def x10 : XFn := ⟨[(.i .u64)], false, [(.tmp p2)], c10_e⟩
def e10_0 (k t0 h) := kN k [(p0, (AV.int .u64 t0))] h
def S10_0 (D : CallD) (m : Nat) (t0 : Int) (h : HP) : Res2 :=
 cal D 20 [(AV.int .u64 t0)] h fun t5 h1 =>
 cal D 24 [t5] h1 fun t6 h2 =>
 cal D 25 [t6] h2 fun t9 h3 =>
 asB t9 fun t9a =>
 obB (brV t9a (
 some (vB true)) (
 binCV .gtr t6 ((.flt .f64 4746794007244308480) : AV) fun vt12 => asBV vt12 fun t12 =>
 some (vB t12))) fun t13 =>
 br t13 (
 some (.ret (vW (Int.ofNat 2147483647)) h3, .no)) (
 binC .lss t6 ((.flt .f64 13970166044103278592) : AV) fun vt16 => asB vt16 fun t16 =>
 br t16 (
 some (.ret (vW (Int.ofNat 2147483648)) h3, .no)) (
 obI .i64 (evP (.conv (.fi .i64) (.c t6)) .leaf) fun t18 =>
 cal D 26 [(vI t18)] h3 fun t19 h4 =>
 asI .u32 t19 fun t19a =>
 some (.ret (vW t19a) h4, .no)))
def S10 : SFn := fun D m args h u => nou u <| popI .u64 args fun t0 args => endA args (S10_0 D m t0 h)
theorem T10_0 (hE : FX x10 D m E) : S10_0 D m = e10_0 (E c10_e []) := by unfold S10_0; rw [hE c10_e]; kernel_rfl
theorem X10 : XTie S10 x10 := X_of fun D m E hE args h u => by unfold S10; rw [T10_0 hE]; kernel_rfl
/- 11 -/
def v11_0 : List Pos := [p3, p6]
def c11_0 : XC := (.seq (.seq (.oX [.mv p32 q3 (.i .u64), .bn p33 .eql q32 (.c (.int .u64 (.ofNat 1))) .b, .mv p34 q33 .b, .ge p34 (XL.of [.G p34 true p35 (.mov q6) tI, .G p34 true p36 (.bin .geq q35 (ci 2147483648)) .b, .P p37 (.pick q34 q36 (cb false)) .b]) p37 .b]) (.cond q37 (.seq (.oX [.mv p2 (.c (.int .u32 (.ofNat 2147483648))) tW]) .ret) .skip)) (.seq (.seq (.oX [.mv p38 q3 (.i .u64), .bn p39 .eql q38 (.c (.int .u64 (.ofNat 1))) .b]) (.cond q39 (.seq (.oX [.mv p40 q6 tI, .P p41 (.un .neg q40) tI, .cl p42 27 [q41] tW, .mv p2 q42 tW]) .ret) .skip)) (.seq (.seq (.oX [.mv p43 q6 tI, .bn p44 .gtr q43 (ci 2147483647) .b]) (.cond q44 (.seq (.oX [.mv p2 (.c (.int .u32 (.ofNat 2147483647))) tW]) .ret) .skip)) (.sO [.mv p45 q6 tI, .P p46 (.conv (.ii .u32) q45) tW, .mv p2 q46 tW] (.s .ret)))))
def v11_1 : List Pos := [p3, p6, p7]
def c11_1b : XC := (.seq (.seq (.oX [.mv p26 q7 (.i .u64), .bn p27 .lss q26 (.c (.int .u64 (.ofNat 1075))) .b]) (.cond q27 .skip (.exit 0))) (.seq (.block 1 (.oX [.mv p30 q6 tI, .bn p31 .quo q30 (ci 2) tI, .mv p6 q31 tI])) (.s (.oX [.mv p28 q7 (.i .u64), .bn p29 .add q28 (.c (.int .u64 (.ofNat 1))) (.i .u64), .mv p7 q29 (.i .u64)]))))
def c11_e : XC := (.sO [.mv p2 (.c (.int .u32 (.ofNat 0))) tW] (.sO [.mv p9 q0 (.i .u64), .cl p10 23 [q9] .v, .mv p8 q10 .v, .P p11 (.ext q8 0) (.i .u64), .P p12 (.ext q8 1) (.i .u64), .P p13 (.ext q8 2) (.i .u64), .mv p3 q11 (.i .u64), .mv p4 q12 (.i .u64), .mv p5 q13 (.i .u64)] (.seq (.seq (.oX [.mv p14 q0 (.i .u64), .cl p15 21 [q14] .b]) (.cond q15 (.seq (.oX [.mv p2 (.c (.int .u32 (.ofNat 2147483647))) tW]) .ret) .skip)) (.seq (.seq (.oX [.mv p16 q4 (.i .u64), .bn p17 .lss q16 (.c (.int .u64 (.ofNat 1023))) .b]) (.cond q17 (.seq (.oX [.mv p2 (.c (.int .u32 (.ofNat 0))) tW]) .ret) .skip)) (.seq (.seq (.oX [.mv p18 q4 (.i .u64), .bn p19 .gtr q18 (.c (.int .u64 (.ofNat 1054))) .b]) (.cond q19 (.seq (.seq (.oX [.mv p20 q3 (.i .u64), .bn p21 .eql q20 (.c (.int .u64 (.ofNat 1))) .b]) (.cond q21 (.seq (.oX [.mv p2 (.c (.int .u32 (.ofNat 2147483648))) tW]) .ret) .skip)) (.seq (.oX [.mv p2 (.c (.int .u32 (.ofNat 2147483647))) tW]) .ret)) .skip)) (.sO [.mv p22 q5 (.i .u64), .bn p23 .add q22 (.c (.int .u64 (.ofNat 4503599627370496))) (.i .u64), .P p24 (.conv (.ii .i64) q23) tI, .mv p6 q24 tI] (.sj v11_0 (.sO [.mv p25 q4 (.i .u64), .mv p7 q25 (.i .u64)] (.block 0 (.loop v11_1 c11_1b))) c11_0)))))))
def x11 : XFn := ⟨[(.i .u64)], false, [(.tmp p2)], c11_e⟩
def e11_0 (k t3 t6 h) := kN k [(p3, (AV.int .u64 t3)), (p6, (vI t6))] h
def S11_0 (D : CallD) (m : Nat) (t3 t6 : Int) (h : HP) : Res2 :=
 let t33 := eqQ t3 (Int.ofNat 1)
 obB (brV t33 (
 let t36 := leQ (Int.ofNat 2147483648) t6
 some (vB t36)) (
 some (vB false))) fun t37 =>
 br t37 (
 some (.ret (vW (Int.ofNat 2147483648)) h, .no)) (
 let t39 := eqQ t3 (Int.ofNat 1)
 br t39 (
 let t41 := IntKind.wrap .i64 (0 - t6)
 cal D 27 [(vI t41)] h fun t42 h5 =>
 asI .u32 t42 fun t42a =>
 some (.ret (vW t42a) h5, .no)) (
 let t44 := ltQ (Int.ofNat 2147483647) t6
 br t44 (
 some (.ret (vW (Int.ofNat 2147483647)) h, .no)) (
 let t46 := wrapF .u32 t6
 some (.ret (vW t46) h, .no))))
def e11_1 (k t3 t6 t7 h) := kN k [(p3, (AV.int .u64 t3)), (p6, (vI t6)), (p7, (AV.int .u64 t7))] h
def S11_1b (D : CallD) (m : Nat) (g1 : Int → Int → Int → HP → Res2) (t3 t6 t7 : Int) (h : HP) : Res2 :=
 let t27 := ltQ t7 (Int.ofNat 1075)
 br t27 (
 let t31 := wrapF .i64 (Int.tdiv t6 (Int.ofNat 2))
 let t29 := wrQ .u64 (addQ t7 (Int.ofNat 1))
 g1 t3 t31 t29 h) (
 S11_0 D m t3 t6 h)
def S11_1 (D : CallD) (m : Nat) : Int → Int → Int → HP → Res2 := nrec (fun _ _ _ _ => none) (fun _ g => S11_1b D m g) m
def e11_2 (k t0 h) := kN k [(p0, (AV.int .u64 t0))] h
def S11_2 (D : CallD) (m : Nat) (t0 : Int) (h : HP) : Res2 :=
 cal D 23 [(AV.int .u64 t0)] h fun t10 h3 =>
 extC t10 0 fun vt11 => asI .u64 vt11 fun t11 =>
 extC t10 1 fun vt12 => asI .u64 vt12 fun t12 =>
 extC t10 2 fun vt13 => asI .u64 vt13 fun t13 =>
 cal D 21 [(AV.int .u64 t0)] h3 fun t15 h4 =>
 asB t15 fun t15a =>
 br t15a (
 some (.ret (vW (Int.ofNat 2147483647)) h4, .no)) (
 let t17 := ltQ t12 (Int.ofNat 1023)
 br t17 (
 some (.ret (vW (Int.ofNat 0)) h4, .no)) (
 let t19 := ltQ (Int.ofNat 1054) t12
 br t19 (
 let t21 := eqQ t11 (Int.ofNat 1)
 br t21 (
 some (.ret (vW (Int.ofNat 2147483648)) h4, .no)) (
 some (.ret (vW (Int.ofNat 2147483647)) h4, .no))) (
 let t23 := wrQ .u64 (addQ t13 (Int.ofNat 4503599627370496))
 let t24 := wrapF .i64 t23
 S11_1 D m t11 t24 t12 h4)))
def S11 : SFn := fun D m args h u => nou u <| popI .u64 args fun t0 args => endA args (S11_2 D m t0 h)
theorem T11_0 (hE : FX x11 D m E) : S11_0 D m = e11_0 (E c11_0 []) := by unfold S11_0; rw [hE c11_0]; kernel_rfl
theorem T11_1b (hE : FX x11 D m E) (G1) : S11_1b D m (e11_1 G1) = e11_1 (E c11_1b [.lp v11_1 G1, .blk 0, .sj v11_0 c11_0]) := by unfold S11_1b; rw [T11_0 hE, hE c11_1b]; kernel_rfl
theorem T11_1 (hE : FX x11 D m E) : S11_1 D m = e11_1 (nrec (fun _ => none) (fun _ G1 st => E c11_1b [.lp v11_1 G1, .blk 0, .sj v11_0 c11_0] st) m) :=
  nrec_emb e11_1 (fun _ _ _ _ => none) (fun g => S11_1b D m g) (fun G1 st => E c11_1b [.lp v11_1 G1, .blk 0, .sj v11_0 c11_0] st) rfl (fun g => T11_1b hE g) m
theorem T11_2 (hE : FX x11 D m E) : S11_2 D m = e11_2 (E c11_e []) := by unfold S11_2; rw [T11_1 hE, hE c11_e]; kernel_rfl
theorem X11 : XTie S11 x11 := X_of fun D m E hE args h u => by unfold S11; rw [T11_2 hE]; kernel_rfl
/- 12 -/
def c12_e : XC := (.sO [.mv p2 (.c (.str [])) .s] (.sO [.mv p4 q0 (.i .u64), .cl p5 6 [q4] (.i .u64), .cl p6 28 [q5, (ci 16)] .s, .mv p3 q6 .s] (.sO [.mv p7 q3 .s, .P p8 (.lens q7) tI, .bn p9 .sub (ci 16) q8 tI, .cl p10 29 [(.c (.str [48])), q9] .s, .mv p11 q3 .s, .bn p12 .add q10 q11 .s, .mv p2 q12 .s] (.s .ret))))
def x12 : XFn := ⟨[(.i .u64)], false, [(.tmp p2)], c12_e⟩
def e12_0 (k t0 h) := kN k [(p0, (AV.int .u64 t0))] h
def S12_0 (D : CallD) (m : Nat) (t0 : Int) (h : HP) : Res2 :=
 cal D 6 [(AV.int .u64 t0)] h fun t5 h1 =>
 asI .u64 t5 fun t5a =>
 cal D 28 [(AV.int .u64 t5a), (vI (Int.ofNat 16))] h1 fun t6 h2 =>
 asS t6 fun t6a =>
 let t8 := Int.ofNat (lenL t6a)
 let t9 := wrQ .i64 ((Int.ofNat 16) - t8)
 cal D 29 [(vS ([48] : LN)), (vI t9)] h2 fun t10 h3 =>
 asS t10 fun t10a =>
 obS (strBin .add t10a t6a) fun t12 =>
 some (.ret (vS t12) h3, .no)
def S12 : SFn := fun D m args h u => nou u <| popI .u64 args fun t0 args => endA args (S12_0 D m t0 h)
theorem T12_0 (hE : FX x12 D m E) : S12_0 D m = e12_0 (E c12_e []) := by unfold S12_0; rw [hE c12_e]; kernel_rfl
theorem X12 : XTie S12 x12 := X_of fun D m E hE args h u => by unfold S12; rw [T12_0 hE]; kernel_rfl
/- 13 -/
def v13_0 : List Pos := [p3]
def c13_0 : XC := (.sO [.mv p23 q3 .s, .mv p2 q23 .s] (.s .ret))
def v13_1 : List Pos := [p0, p3, p4]
def c13_1b : XC := (.seq (.seq (.oX [.mv p8 q4 tI, .bn p9 .lss q8 (ci 16) .b]) (.cond q9 .skip (.exit 0))) (.seq (.block 1 (.seq (.oX [.mv p5 (.c (.str [48, 49, 50, 51, 52, 53, 54, 55, 56, 57, 97, 98, 99, 100, 101, 102])) .s]) (.seq (.oX [.mv p12 q5 .s, .mv p13 q0 (.i .u64), .bn p14 .rem q13 (.c (.int .u64 (.ofNat 16))) (.i .u64), .mv p15 q0 (.i .u64), .bn p16 .rem q15 (.c (.int .u64 (.ofNat 16))) (.i .u64), .bn p17 .add q16 (.c (.int .u64 (.ofNat 1))) (.i .u64), .P p18 (.slice .str q12 (some q14) (some q17) none) .s, .mv p19 q3 .s, .bn p20 .add q18 q19 .s, .mv p3 q20 .s]) (.oX [.mv p21 q0 (.i .u64), .bn p22 .quo q21 (.c (.int .u64 (.ofNat 16))) (.i .u64), .mv p0 q22 (.i .u64)])))) (.s (.oX [.mv p10 q4 tI, .bn p11 .add q10 (ci 1) tI, .mv p4 q11 tI]))))
def c13_e : XC := (.sO [.mv p2 (.c (.str [])) .s] (.sO [.mv p6 q0 (.i .u64), .cl p7 7 [q6] (.i .u64), .mv p0 q7 (.i .u64)] (.sO [.mv p3 (.c (.str [])) .s] (.sj v13_0 (.sO [.mv p4 (ci 0) tI] (.block 0 (.loop v13_1 c13_1b))) c13_0))))
def x13 : XFn := ⟨[(.i .u64)], false, [(.tmp p2)], c13_e⟩
def e13_0 (k t3 h) := kN k [(p3, (vS t3))] h
def S13_0 (D : CallD) (m : Nat) (t3 : LN) (h : HP) : Res2 :=
 some (.ret (vS t3) h, .no)
def e13_1 (k t0 t3 t4 h) := kN k [(p0, (AV.int .u64 t0)), (p3, (vS t3)), (p4, (vI t4))] h
def S13_1b (D : CallD) (m : Nat) (g1 : Int → LN → Int → HP → Res2) (t0 : Int) (t3 : LN) (t4 : Int) (h : HP) : Res2 :=
 let t9 := ltQ t4 (Int.ofNat 16)
 br t9 (
 let t14 := Int.tmod t0 (Int.ofNat 16)
 let t16 := Int.tmod t0 (Int.ofNat 16)
 let t17 := wrQ .u64 (addQ t16 (Int.ofNat 1))
 slC (vS ([48, 49, 50, 51, 52, 53, 54, 55, 56, 57, 97, 98, 99, 100, 101, 102] : LN)) (some (AV.int .u64 t14)) (some (AV.int .u64 t17)) fun vt18 => asS vt18 fun t18 =>
 obS (strBin .add t18 t3) fun t20 =>
 let t22 := wrapF .u64 (Int.tdiv t0 (Int.ofNat 16))
 let t11 := wrQ .i64 (addQ t4 (Int.ofNat 1))
 g1 t22 t20 t11 h) (
 S13_0 D m t3 h)
def S13_1 (D : CallD) (m : Nat) : Int → LN → Int → HP → Res2 := nrec (fun _ _ _ _ => none) (fun _ g => S13_1b D m g) m
def e13_2 (k t0 h) := kN k [(p0, (AV.int .u64 t0))] h
def S13_2 (D : CallD) (m : Nat) (t0 : Int) (h : HP) : Res2 :=
 cal D 7 [(AV.int .u64 t0)] h fun t7 h3 =>
 asI .u64 t7 fun t7a =>
 S13_1 D m t7a ([] : LN) (Int.ofNat 0) h3
def S13 : SFn := fun D m args h u => nou u <| popI .u64 args fun t0 args => endA args (S13_2 D m t0 h)
theorem T13_0 (hE : FX x13 D m E) : S13_0 D m = e13_0 (E c13_0 []) := by unfold S13_0; rw [hE c13_0]; kernel_rfl
theorem T13_1b (hE : FX x13 D m E) (G1) : S13_1b D m (e13_1 G1) = e13_1 (E c13_1b [.lp v13_1 G1, .blk 0, .sj v13_0 c13_0]) := by unfold S13_1b; rw [T13_0 hE, hE c13_1b]; kernel_rfl
theorem T13_1 (hE : FX x13 D m E) : S13_1 D m = e13_1 (nrec (fun _ => none) (fun _ G1 st => E c13_1b [.lp v13_1 G1, .blk 0, .sj v13_0 c13_0] st) m) :=
  nrec_emb e13_1 (fun _ _ _ _ => none) (fun g => S13_1b D m g) (fun G1 st => E c13_1b [.lp v13_1 G1, .blk 0, .sj v13_0 c13_0] st) rfl (fun g => T13_1b hE g) m
theorem T13_2 (hE : FX x13 D m E) : S13_2 D m = e13_2 (E c13_e []) := by unfold S13_2; rw [T13_1 hE, hE c13_e]; kernel_rfl
theorem X13 : XTie S13 x13 := X_of fun D m E hE args h u => by unfold S13; rw [T13_2 hE]; kernel_rfl
/- 14 -/
def c14_e : XC := (.sO [.mv p2 (.c (.int .u64 (.ofNat 0))) (.i .u64)] (.sO [.mv p3 q0 tW, .cl p4 30 [q3] tI, .P p5 (.conv (.jf .f64) q4) .v, .cl p6 19 [q5] (.i .u64), .mv p2 q6 (.i .u64)] (.s .ret)))
def x14 : XFn := ⟨[tW], false, [(.tmp p2)], c14_e⟩
def e14_0 (k t0 h) := kN k [(p0, (vW t0))] h
def S14_0 (D : CallD) (m : Nat) (t0 : Int) (h : HP) : Res2 :=
 cal D 30 [(vW t0)] h fun t4 h1 =>
 asI .i64 t4 fun t4a =>
 let t5 := AV.flt .f64 (FloatKind.nearest .f64 t4a)
 cal D 19 [t5] h1 fun t6 h2 =>
 asI .u64 t6 fun t6a =>
 some (.ret (AV.int .u64 t6a) h2, .no)
def S14 : SFn := fun D m args h u => nou u <| popI .u32 args fun t0 args => endA args (S14_0 D m t0 h)
theorem T14_0 (hE : FX x14 D m E) : S14_0 D m = e14_0 (E c14_e []) := by unfold S14_0; rw [hE c14_e]; kernel_rfl
theorem X14 : XTie S14 x14 := X_of fun D m E hE args h u => by unfold S14; rw [T14_0 hE]; kernel_rfl
/- 15 -/
def c15_e : XC := (.sO [.mv p2 (.c (.int .u64 (.ofNat 0))) (.i .u64)] (.sO [.mv p4 q0 tW, .cl p5 31 [q4] tI, .mv p3 q5 tI] (.seq (.seq (.oX [.mv p6 q3 tI, .bn p7 .lss q6 (ci 0) .b]) (.cond q7 (.seq (.oX [.mv p8 q3 tI, .P p9 (.un .neg q8) tI, .cl p10 34 [q9] .v, .cl p11 34 [(ci 1)] .v, .cl p12 33 [q10, q11, (ci 0)] (.i .u64), .cl p13 32 [(.c (.int .u64 (.ofNat 1))), q12] (.i .u64), .mv p2 q13 (.i .u64)]) .ret) .skip)) (.sO [.mv p14 q3 tI, .cl p15 34 [q14] .v, .cl p16 34 [(ci 1)] .v, .cl p17 33 [q15, q16, (ci 0)] (.i .u64), .mv p2 q17 (.i .u64)] (.s .ret)))))
def x15 : XFn := ⟨[tW], false, [(.tmp p2)], c15_e⟩
def e15_0 (k t0 h) := kN k [(p0, (vW t0))] h
def S15_0 (D : CallD) (m : Nat) (t0 : Int) (h : HP) : Res2 :=
 cal D 31 [(vW t0)] h fun t5 h1 =>
 asI .i64 t5 fun t5a =>
 let t7 := ltQ t5a (Int.ofNat 0)
 br t7 (
 let t9 := IntKind.wrap .i64 (0 - t5a)
 cal D 34 [(vI t9)] h1 fun t10 h2 =>
 cal D 34 [(vI (Int.ofNat 1))] h2 fun t11 h3 =>
 cal D 33 [t10, t11, (vI (Int.ofNat 0))] h3 fun t12 h4 =>
 asI .u64 t12 fun t12a =>
 cal D 32 [(AV.int .u64 (Int.ofNat 1)), (AV.int .u64 t12a)] h4 fun t13 h5 =>
 asI .u64 t13 fun t13a =>
 some (.ret (AV.int .u64 t13a) h5, .no)) (
 cal D 34 [(vI t5a)] h1 fun t15 h6 =>
 cal D 34 [(vI (Int.ofNat 1))] h6 fun t16 h7 =>
 cal D 33 [t15, t16, (vI (Int.ofNat 0))] h7 fun t17 h8 =>
 asI .u64 t17 fun t17a =>
 some (.ret (AV.int .u64 t17a) h8, .no))
def S15 : SFn := fun D m args h u => nou u <| popI .u32 args fun t0 args => endA args (S15_0 D m t0 h)
theorem T15_0 (hE : FX x15 D m E) : S15_0 D m = e15_0 (E c15_e []) := by unfold S15_0; rw [hE c15_e]; kernel_rfl
theorem X15 : XTie S15 x15 := X_of fun D m E hE args h u => by unfold S15; rw [T15_0 hE]; kernel_rfl
/- 16 -/
def v16_0 : List Pos := [p4]
def c16_0 : XC := (.sO [.mv p19 q4 (.i .u64), .mv p2 q19 (.i .u64), .mv p3 (ci 0) tI] (.s .ret))
def c16_2 : XC := (.cond q18 (.sO [.mv p2 (.c (.int .u64 (.ofNat 0))) (.i .u64), .mv p3 (ci 2) tI] (.s .ret)) (.s .skip))
def l16_1 : XL := (XL.of [])
def c16_e : XC := (.sO [.mv p2 (.c (.int .u64 (.ofNat 0))) (.i .u64), .mv p3 (ci 0) tI] (.sO [.mv p7 q0 .s, .cl p8 35 [q7, (ci 16), (ci 64)] .v, .mv p6 q8 .v, .P p9 (.ext q6 0) (.i .u64), .P p10 (.ext q6 1) .v, .mv p4 q9 (.i .u64), .mv p5 q10 .v] (.sj v16_0 (.opq false (XL.pre [.mv p11 q5 .v, .P p12 (.eqn .ifc true q11 (.c .nili)) .b, .mv p13 q12 .b, .sp p13, .G p13 false p14 (.mov q4) (.i .u64), .o ⟨(some p15), (.call (.fn 12) [q14]), (some (p13, false)), []⟩ .s, .G p13 false p16 (.mov q0) .s, .G p13 false p17 (.bin .neq q15 q16) .b, .P p18 (.pick q13 (cb true) q17) .b, .jn p13 [p4, p18]] l16_1) c16_2) c16_0)))
def x16 : XFn := ⟨[.s], false, [(.tmp p2), (.tmp p3)], c16_e⟩
def e16_0 (k t4 h) := kN k [(p4, (AV.int .u64 t4))] h
def S16_0 (D : CallD) (m : Nat) (t4 : Int) (h : HP) : Res2 :=
 some (.ret (.tup [(AV.int .u64 t4), (vI (Int.ofNat 0))]) h, .no)
def e16_1 (k t4 t18 h) := kN k [(p4, (AV.int .u64 t4)), (p18, (vB t18))] h
def S16_1 (D : CallD) (m : Nat) (t4 : Int) (t18 : Bool) (h : HP) : Res2 :=
 br t18 (
 some (.ret (.tup [(AV.int .u64 (Int.ofNat 0)), (vI (Int.ofNat 2))]) h, .no)) (
 S16_0 D m t4 h)
def e16_3 (k t0 h) := kN k [(p0, (vS t0))] h
def S16_3 (D : CallD) (m : Nat) (t0 : LN) (h : HP) : Res2 :=
 cal D 35 [(vS t0), (vI (Int.ofNat 16)), (vI (Int.ofNat 64))] h fun t8 h4 =>
 extC t8 0 fun vt9 => asI .u64 vt9 fun t9 =>
 extC t8 1 fun t10 =>
 obB (evP (.eqn .ifc true (.c t10) (.c (.nili : AV))) .leaf) fun t12 =>
 br t12 (
 S16_1 D m t9 true h4) (
 cal D 12 [(AV.int .u64 t9)] h4 fun t15 h5 =>
 asS t15 fun t15a =>
 let t17 := !(eqL t15a t0)
 S16_1 D m t9 t17 h5)
def S16 : SFn := fun D m args h u => nou u <| popS args fun t0 args => endA args (S16_3 D m t0 h)
theorem T16_0 (hE : FX x16 D m E) : S16_0 D m = e16_0 (E c16_0 []) := by unfold S16_0; rw [hE c16_0]; kernel_rfl
theorem T16_1 (hE : FX x16 D m E) : S16_1 D m = e16_1 (E (.opq false l16_1 c16_2) [.sj v16_0 c16_0]) := by unfold S16_1; rw [T16_0 hE, hE (.opq false l16_1 c16_2)]; kernel_rfl
theorem T16_3 (hE : FX x16 D m E) : S16_3 D m = e16_3 (E c16_e []) := by unfold S16_3; rw [T16_1 hE, hE c16_e]; kernel_rfl
theorem X16 : XTie S16 x16 := X_of fun D m E hE args h u => by unfold S16; rw [T16_3 hE]; kernel_rfl
/- 17 -/
def v17_0 : List Pos := [p0, p4, p5]
def c17_0 : XC := (.seq (.seq (.oX [.mv p68 q5 .b, .P p69 (.un .not q68) .b, .mv p70 q69 .b, .ge p70 (XL.of [.G p70 false p71 (.mov q4) .s, .G p70 false p72 (.bin .neq q71 (.c (.str []))) .b, .P p73 (.pick q70 (cb true) q72) .b]) p73 .b]) (.cond q73 (.seq (.oX [.mv p2 (.c (.int .u64 (.ofNat 0))) (.i .u64), .mv p3 (ci 2) tI]) .ret) .skip)) (.sO [.mv p75 q0 .s, .cl p76 38 [q75, (ci 64)] .v, .mv p74 q76 .v, .P p77 (.ext q74 0) .v, .P p78 (.ext q74 1) .v, .mv p10 q77 .v, .mv p11 q78 .v] (.sO [.mv p79 q10 .v, .cl p80 19 [q79] (.i .u64), .mv p2 q80 (.i .u64), .mv p3 (ci 0) tI] (.s .ret))))
def v17_1 : List Pos := [p0, p5, p8]
def c17_1 : XC := (.sO [.mv p60 q8 .s, .cl p61 36 [q60] .v, .mv p59 q61 .v, .P p62 (.ext q59 0) .s, .P p63 (.ext q59 1) .b, .mv p4 q62 .s, .mv p7 q63 .b] (.s (.oX [.mv p64 q5 .b, .mv p65 q64 .b, .ge p65 (XL.of [.G p65 true p66 (.mov q7) .b, .P p67 (.pick q65 q66 (cb false)) .b]) p67 .b, .mv p5 q67 .b])))
def c17_e : XC := (.sO [.mv p2 (.c (.int .u64 (.ofNat 0))) (.i .u64), .mv p3 (ci 0) tI] (.sO [.mv p13 q0 .s, .cl p14 36 [q13] .v, .mv p12 q14 .v, .P p15 (.ext q12 0) .s, .P p16 (.ext q12 1) .b, .mv p4 q15 .s, .mv p5 q16 .b] (.sO [.mv p18 q4 .s, .cl p19 37 [q18, (.c (.str [46]))] .v, .mv p17 q19 .v, .P p20 (.ext q17 0) .s, .P p21 (.ext q17 1) .b, .mv p4 q20 .s, .mv p6 q21 .b] (.sO [.mv p23 q4 .s, .cl p24 36 [q23] .v, .mv p22 q24 .v, .P p25 (.ext q22 0) .s, .P p26 (.ext q22 1) .b, .mv p4 q25 .s, .mv p7 q26 .b] (.sO [.mv p27 q5 .b, .mv p28 q27 .b, .ge p28 (XL.of [.G p28 true p29 (.mov q6) .b, .P p30 (.pick q28 q29 (cb false)) .b]) p30 .b, .mv p31 q30 .b, .ge p31 (XL.of [.G p31 true p32 (.mov q7) .b, .P p33 (.pick q31 q32 (cb false)) .b]) p33 .b, .mv p34 q33 .b, .ge p34 (XL.of [.G p34 true p35 (.mov q0) .s, .G p34 true p36 (.lens q35) tI, .G p34 true p37 (.bin .leq q36 (ci 40)) .b, .P p38 (.pick q34 q37 (cb false)) .b]) p38 .b, .mv p5 q38 .b] (.sj v17_0 (.sO [.mv p40 q4 .s, .cl p41 37 [q40, (.c (.str [101]))] .v, .mv p39 q41 .v, .P p42 (.ext q39 0) .s, .P p43 (.ext q39 1) .b, .mv p8 q42 .s, .mv p9 q43 .b] (.sO [.mv p44 q9 .b] (.cond q44 (.sj v17_1 (.sO [.mv p45 q8 .s, .bn p46 .neq q45 (.c (.str [])) .b, .mv p47 q46 .b, .ge p47 (XL.of [.G p47 true p48 (.mov q8) .s, .G p47 true p49 (.idxs q48 (ci 0)) tC, .G p47 true p50 (.bin .eql q49 (.c (.int .u8 (.ofNat 43)))) .b, .G p47 true p51 (.mov q50) .b, .ge p51 (XL.of [.G p51 false p52 (.mov q8) .s, .G p51 false p53 (.idxs q52 (ci 0)) tC, .G p51 false p54 (.bin .eql q53 (.c (.int .u8 (.ofNat 45)))) .b, .G p47 true p55 (.pick q51 (cb true) q54) .b]) p55 .b, .P p56 (.pick q47 q55 (cb false)) .b]) p56 .b] (.cond q56 (.s (.oX [.mv p57 q8 .s, .P p58 (.slice .str q57 (some (ci 1)) none none) .s, .mv p8 q58 .s])) (.s .skip))) c17_1) (.s .skip)))) c17_0))))))
def x17 : XFn := ⟨[.s], false, [(.tmp p2), (.tmp p3)], c17_e⟩
def e17_0 (k t0 t4 t5 h) := kN k [(p0, (vS t0)), (p4, (vS t4)), (p5, (vB t5))] h
def S17_0 (D : CallD) (m : Nat) (t0 t4 : LN) (t5 : Bool) (h : HP) : Res2 :=
 let t69 := !t5
 obB (brV t69 (
 some (vB true)) (
 let t72 := !(eqL t4 ([] : LN))
 some (vB t72))) fun t73 =>
 br t73 (
 some (.ret (.tup [(AV.int .u64 (Int.ofNat 0)), (vI (Int.ofNat 2))]) h, .no)) (
 cal D 38 [(vS t0), (vI (Int.ofNat 64))] h fun t76 h6 =>
 extC t76 0 fun t77 =>
 extC t76 1 fun t78 =>
 cal D 19 [t77] h6 fun t80 h7 =>
 asI .u64 t80 fun t80a =>
 some (.ret (.tup [(AV.int .u64 t80a), (vI (Int.ofNat 0))]) h7, .no))
def e17_1 (k t0 t5 t8 h) := kN k [(p0, (vS t0)), (p5, (vB t5)), (p8, (vS t8))] h
def S17_1 (D : CallD) (m : Nat) (t0 : LN) (t5 : Bool) (t8 : LN) (h : HP) : Res2 :=
 cal D 36 [(vS t8)] h fun t61 h9 =>
 extC t61 0 fun vt62 => asS vt62 fun t62 =>
 extC t61 1 fun vt63 => asB vt63 fun t63 =>
 obB (brV t5 (
 some (vB t63)) (
 some (vB false))) fun t67 =>
 S17_0 D m t0 t62 t67 h9
def e17_2 (k t0 h) := kN k [(p0, (vS t0))] h
def S17_2 (D : CallD) (m : Nat) (t0 : LN) (h : HP) : Res2 :=
 cal D 36 [(vS t0)] h fun t14 h3 =>
 extC t14 0 fun vt15 => asS vt15 fun t15 =>
 extC t14 1 fun vt16 => asB vt16 fun t16 =>
 cal D 37 [(vS t15), (vS ([46] : LN))] h3 fun t19 h4 =>
 extC t19 0 fun vt20 => asS vt20 fun t20 =>
 extC t19 1 fun vt21 => asB vt21 fun t21 =>
 cal D 36 [(vS t20)] h4 fun t24 h5 =>
 extC t24 0 fun vt25 => asS vt25 fun t25 =>
 extC t24 1 fun vt26 => asB vt26 fun t26 =>
 obB (brV t16 (
 some (vB t21)) (
 some (vB false))) fun t30 =>
 obB (brV t30 (
 some (vB t26)) (
 some (vB false))) fun t33 =>
 obB (brV t33 (
 let t36 := Int.ofNat (lenL t0)
 let t37 := leQ t36 (Int.ofNat 40)
 some (vB t37)) (
 some (vB false))) fun t38 =>
 cal D 37 [(vS t25), (vS ([101] : LN))] h5 fun t41 h8 =>
 extC t41 0 fun vt42 => asS vt42 fun t42 =>
 extC t41 1 fun vt43 => asB vt43 fun t43 =>
 br t43 (
 let t46 := !(eqL t42 ([] : LN))
 obB (brV t46 (
 ixCV (vS t42) (vI (Int.ofNat 0)) fun vt49 => asIV .u8 vt49 fun t49 =>
 let t50 := eqQ t49 (Int.ofNat 43)
 obBV (brV t50 (
 some (vB true)) (
 ixCV (vS t42) (vI (Int.ofNat 0)) fun vt53 => asIV .u8 vt53 fun t53 =>
 let t54 := eqQ t53 (Int.ofNat 45)
 some (vB t54))) fun t55 =>
 some (vB t55)) (
 some (vB false))) fun t56 =>
 br t56 (
 slC (vS t42) (some (vI (Int.ofNat 1))) none fun vt58 => asS vt58 fun t58 =>
 S17_1 D m t0 t38 t58 h8) (
 S17_1 D m t0 t38 t42 h8)) (
 S17_0 D m t0 t25 t38 h8)
def S17 : SFn := fun D m args h u => nou u <| popS args fun t0 args => endA args (S17_2 D m t0 h)
theorem T17_0 (hE : FX x17 D m E) : S17_0 D m = e17_0 (E c17_0 []) := by unfold S17_0; rw [hE c17_0]; kernel_rfl
theorem T17_1 (hE : FX x17 D m E) : S17_1 D m = e17_1 (E c17_1 [.sj v17_0 c17_0]) := by unfold S17_1; rw [T17_0 hE, hE c17_1]; kernel_rfl
theorem T17_2 (hE : FX x17 D m E) : S17_2 D m = e17_2 (E c17_e []) := by unfold S17_2; rw [T17_1 hE, T17_0 hE, hE c17_e]; kernel_rfl
theorem X17 : XTie S17 x17 := X_of fun D m E hE args h u => by unfold S17; rw [T17_2 hE]; kernel_rfl
/- 18 -/
def c18_e : XC := (.sO [.mv p6 (.c (.int .u64 (.ofNat 0))) (.i .u64), .mv p7 (ci 0) tI] (.sO [.mv p10 q1 (.i .u64), .cl p11 20 [q10] .v, .mv p12 q2 (.i .u64), .cl p13 20 [q12] .v, .mv p8 q11 .v, .mv p9 q13 .v] (.seq (.seq (.oX [.mv p14 q0 tI]) (.block 0 (.seq (.oX [.bn p16 .eql q14 (ci 45) .b, .mv p15 q16 .b]) (.cond q15 (.seq (.oX [.mv p17 q8 .v, .mv p18 q9 .v, .bn p19 .add q17 q18 .v, .cl p20 19 [q19] (.i .u64), .mv p6 q20 (.i .u64), .mv p7 (ci 0) tI]) .ret) (.seq (.oX [.bn p22 .eql q14 (ci 46) .b, .mv p21 q22 .b]) (.cond q21 (.seq (.oX [.mv p23 q8 .v, .mv p24 q9 .v, .bn p25 .sub q23 q24 .v, .cl p26 19 [q25] (.i .u64), .mv p6 q26 (.i .u64), .mv p7 (ci 0) tI]) .ret) (.seq (.oX [.bn p28 .eql q14 (ci 47) .b, .mv p27 q28 .b]) (.cond q27 (.seq (.oX [.mv p29 q8 .v, .mv p30 q9 .v, .bn p31 .mul q29 q30 .v, .cl p32 19 [q31] (.i .u64), .mv p6 q32 (.i .u64), .mv p7 (ci 0) tI]) .ret) (.seq (.oX [.bn p34 .eql q14 (ci 48) .b, .mv p33 q34 .b]) (.cond q33 (.seq (.oX [.mv p35 q8 .v, .mv p36 q9 .v, .bn p37 .quo q35 q36 .v, .cl p38 19 [q37] (.i .u64), .mv p6 q38 (.i .u64), .mv p7 (ci 0) tI]) .ret) .skip)))))))))) (.sO [.mv p6 (.c (.int .u64 (.ofNat 0))) (.i .u64), .mv p7 (ci 1) tI] (.s .ret)))))
def x18 : XFn := ⟨[tI, (.i .u64), (.i .u64)], false, [(.tmp p6), (.tmp p7)], c18_e⟩
def e18_0 (k t0 t1 t2 h) := kN k [(p0, (vI t0)), (p1, (AV.int .u64 t1)), (p2, (AV.int .u64 t2))] h
def S18_0 (D : CallD) (m : Nat) (t0 t1 t2 : Int) (h : HP) : Res2 :=
 cal D 20 [(AV.int .u64 t1)] h fun t11 h1 =>
 cal D 20 [(AV.int .u64 t2)] h1 fun t13 h2 =>
 let t16 := eqQ t0 (Int.ofNat 45)
 br t16 (
 binC .add t11 t13 fun t19 =>
 cal D 19 [t19] h2 fun t20 h3 =>
 asI .u64 t20 fun t20a =>
 some (.ret (.tup [(AV.int .u64 t20a), (vI (Int.ofNat 0))]) h3, .no)) (
 let t22 := eqQ t0 (Int.ofNat 46)
 br t22 (
 binC .sub t11 t13 fun t25 =>
 cal D 19 [t25] h2 fun t26 h4 =>
 asI .u64 t26 fun t26a =>
 some (.ret (.tup [(AV.int .u64 t26a), (vI (Int.ofNat 0))]) h4, .no)) (
 let t28 := eqQ t0 (Int.ofNat 47)
 br t28 (
 binC .mul t11 t13 fun t31 =>
 cal D 19 [t31] h2 fun t32 h5 =>
 asI .u64 t32 fun t32a =>
 some (.ret (.tup [(AV.int .u64 t32a), (vI (Int.ofNat 0))]) h5, .no)) (
 let t34 := eqQ t0 (Int.ofNat 48)
 br t34 (
 binC .quo t11 t13 fun t37 =>
 cal D 19 [t37] h2 fun t38 h6 =>
 asI .u64 t38 fun t38a =>
 some (.ret (.tup [(AV.int .u64 t38a), (vI (Int.ofNat 0))]) h6, .no)) (
 some (.ret (.tup [(AV.int .u64 (Int.ofNat 0)), (vI (Int.ofNat 1))]) h2, .no)))))
def S18 : SFn := fun D m args h u => nou u <| popI .i64 args fun t0 args => popI .u64 args fun t1 args => popI .u64 args fun t2 args => endA args (S18_0 D m t0 t1 t2 h)
theorem T18_0 (hE : FX x18 D m E) : S18_0 D m = e18_0 (E c18_e []) := by unfold S18_0; rw [hE c18_e]; kernel_rfl
theorem X18 : XTie S18 x18 := X_of fun D m E hE args h u => by unfold S18; rw [T18_0 hE]; kernel_rfl
/- 19 -/
def c19_e : XC := (.sO [.mv p2 (.c (.int .u64 (.ofNat 0))) (.i .u64)] (.seq (.seq (.oX [.mv p3 q0 .v, .cl p4 25 [q3] .b]) (.cond q4 (.seq (.oX [.mv p2 (.c (.int .u64 (.ofNat 9221120237041090560))) (.i .u64)]) .ret) .skip)) (.sO [.mv p5 q0 .v, .P p6 (.xt .fbits [q5]) (.i .u64), .mv p2 q6 (.i .u64)] (.s .ret))))
def x19 : XFn := ⟨[.v], false, [(.tmp p2)], c19_e⟩
def e19_0 (k t0 h) := kN k [(p0, t0)] h
def S19_0 (D : CallD) (m : Nat) (t0 : AV) (h : HP) : Res2 :=
 cal D 25 [t0] h fun t4 h1 =>
 asB t4 fun t4a =>
 br t4a (
 some (.ret (AV.int .u64 (Int.ofNat 9221120237041090560)) h1, .no)) (
 obI .u64 (evP (.xt .fbits [(.c t0)]) .leaf) fun t6 =>
 some (.ret (AV.int .u64 t6) h1, .no))
def S19 : SFn := fun D m args h u => nou u <| popV args fun t0 args => endA args (S19_0 D m t0 h)
theorem T19_0 (hE : FX x19 D m E) : S19_0 D m = e19_0 (E c19_e []) := by unfold S19_0; rw [hE c19_e]; kernel_rfl
theorem X19 : XTie S19 x19 := X_of fun D m E hE args h u => by unfold S19; rw [T19_0 hE]; kernel_rfl
/- 20 -/
def c20_e : XC := (.sO [.mv p2 (.c (.flt .f64 0)) .v] (.sO [.mv p3 q0 (.i .u64), .P p4 (.xt .ffrom [q3]) .v, .mv p2 q4 .v] (.s .ret)))
def x20 : XFn := ⟨[(.i .u64)], false, [(.tmp p2)], c20_e⟩
def e20_0 (k t0 h) := kN k [(p0, (AV.int .u64 t0))] h
def S20_0 (D : CallD) (m : Nat) (t0 : Int) (h : HP) : Res2 :=
 obQ (evP (.xt .ffrom [(.c (AV.int .u64 t0))]) .leaf) fun t4 =>
 some (.ret t4 h, .no)
def S20 : SFn := fun D m args h u => nou u <| popI .u64 args fun t0 args => endA args (S20_0 D m t0 h)
theorem T20_0 (hE : FX x20 D m E) : S20_0 D m = e20_0 (E c20_e []) := by unfold S20_0; rw [hE c20_e]; kernel_rfl
theorem X20 : XTie S20 x20 := X_of fun D m E hE args h u => by unfold S20; rw [T20_0 hE]; kernel_rfl
/- 21 -/
def c21_e : XC := (.sO [.mv p2 (cb false) .b] (.sO [.mv p7 q0 (.i .u64), .cl p8 23 [q7] .v, .mv p6 q8 .v, .P p9 (.ext q6 0) (.i .u64), .P p10 (.ext q6 1) (.i .u64), .P p11 (.ext q6 2) (.i .u64), .mv p3 q9 (.i .u64), .mv p4 q10 (.i .u64), .mv p5 q11 (.i .u64)] (.sO [.mv p12 q4 (.i .u64), .bn p13 .eql q12 (.c (.int .u64 (.ofNat 2047))) .b, .mv p14 q13 .b, .ge p14 (XL.of [.G p14 true p15 (.mov q5) (.i .u64), .G p14 true p16 (.bin .neq q15 (.c (.int .u64 (.ofNat 0)))) .b, .P p17 (.pick q14 q16 (cb false)) .b]) p17 .b, .mv p2 q17 .b] (.s .ret))))
def x21 : XFn := ⟨[(.i .u64)], false, [(.tmp p2)], c21_e⟩
def e21_0 (k t0 h) := kN k [(p0, (AV.int .u64 t0))] h
def S21_0 (D : CallD) (m : Nat) (t0 : Int) (h : HP) : Res2 :=
 cal D 23 [(AV.int .u64 t0)] h fun t8 h1 =>
 extC t8 0 fun vt9 => asI .u64 vt9 fun t9 =>
 extC t8 1 fun vt10 => asI .u64 vt10 fun t10 =>
 extC t8 2 fun vt11 => asI .u64 vt11 fun t11 =>
 let t13 := eqQ t10 (Int.ofNat 2047)
 obB (brV t13 (
 let t16 := notQ (eqQ t11 (Int.ofNat 0))
 some (vB t16)) (
 some (vB false))) fun t17 =>
 some (.ret (vB t17) h1, .no)
def S21 : SFn := fun D m args h u => nou u <| popI .u64 args fun t0 args => endA args (S21_0 D m t0 h)
theorem T21_0 (hE : FX x21 D m E) : S21_0 D m = e21_0 (E c21_e []) := by unfold S21_0; rw [hE c21_e]; kernel_rfl
theorem X21 : XTie S21 x21 := X_of fun D m E hE args h u => by unfold S21; rw [T21_0 hE]; kernel_rfl
/- 22 -/
def c22_e : XC := (.sO [.mv p4 (.c (.flt .f64 0)) .v] (.sO [.mv p5 q0 .v, .P p6 (.xt .fbits [q5]) (.i .u64), .bn p7 .andNot q6 (.c (.int .u64 (.ofNat 9223372036854775808))) (.i .u64), .mv p8 q1 .v, .P p9 (.xt .fbits [q8]) (.i .u64), .bn p10 .and q9 (.c (.int .u64 (.ofNat 9223372036854775808))) (.i .u64), .bn p11 .or q7 q10 (.i .u64), .P p12 (.xt .ffrom [q11]) .v, .mv p4 q12 .v] (.s .ret)))
def x22 : XFn := ⟨[.v, .v], false, [(.tmp p4)], c22_e⟩
def e22_0 (k t0 t1 h) := kN k [(p0, t0), (p1, t1)] h
def S22_0 (D : CallD) (m : Nat) (t0 t1 : AV) (h : HP) : Res2 :=
 obI .u64 (evP (.xt .fbits [(.c t0)]) .leaf) fun t6 =>
 let t7 := IntKind.wrap .u64 (BitVec.ofInt (IntKind.bits .u64) t6 &&& ~~~ BitVec.ofInt (IntKind.bits .u64) (Int.ofNat 9223372036854775808)).toNat
 obI .u64 (evP (.xt .fbits [(.c t1)]) .leaf) fun t9 =>
 obI .u64 (intBin .and .u64 t9 (Int.ofNat 9223372036854775808)) fun t10 =>
 obI .u64 (intBin .or .u64 t7 t10) fun t11 =>
 obQ (evP (.xt .ffrom [(.c (AV.int .u64 t11))]) .leaf) fun t12 =>
 some (.ret t12 h, .no)
def S22 : SFn := fun D m args h u => nou u <| popV args fun t0 args => popV args fun t1 args => endA args (S22_0 D m t0 t1 h)
theorem T22_0 (hE : FX x22 D m E) : S22_0 D m = e22_0 (E c22_e []) := by unfold S22_0; rw [hE c22_e]; kernel_rfl
theorem X22 : XTie S22 x22 := X_of fun D m E hE args h u => by unfold S22; rw [T22_0 hE]; kernel_rfl
/- 23 -/
def c23_e : XC := (.sO [.mv p2 (.c (.int .u64 (.ofNat 0))) (.i .u64), .mv p3 (.c (.int .u64 (.ofNat 0))) (.i .u64), .mv p4 (.c (.int .u64 (.ofNat 0))) (.i .u64)] (.sO [.mv p5 q0 (.i .u64), .bn p6 .quo q5 (.c (.int .u64 (.ofNat 9223372036854775808))) (.i .u64), .mv p7 q0 (.i .u64), .bn p8 .quo q7 (.c (.int .u64 (.ofNat 4503599627370496))) (.i .u64), .bn p9 .rem q8 (.c (.int .u64 (.ofNat 2048))) (.i .u64), .mv p10 q0 (.i .u64), .bn p11 .rem q10 (.c (.int .u64 (.ofNat 4503599627370496))) (.i .u64), .mv p2 q6 (.i .u64), .mv p3 q9 (.i .u64), .mv p4 q11 (.i .u64)] (.s .ret)))
def x23 : XFn := ⟨[(.i .u64)], false, [(.tmp p2), (.tmp p3), (.tmp p4)], c23_e⟩
def e23_0 (k t0 h) := kN k [(p0, (AV.int .u64 t0))] h
def S23_0 (D : CallD) (m : Nat) (t0 : Int) (h : HP) : Res2 :=
 let t6 := wrapF .u64 (Int.tdiv t0 (Int.ofNat 9223372036854775808))
 let t8 := wrapF .u64 (Int.tdiv t0 (Int.ofNat 4503599627370496))
 let t9 := Int.tmod t8 (Int.ofNat 2048)
 let t11 := Int.tmod t0 (Int.ofNat 4503599627370496)
 some (.ret (.tup [(AV.int .u64 t6), (AV.int .u64 t9), (AV.int .u64 t11)]) h, .no)
def S23 : SFn := fun D m args h u => nou u <| popI .u64 args fun t0 args => endA args (S23_0 D m t0 h)
theorem T23_0 (hE : FX x23 D m E) : S23_0 D m = e23_0 (E c23_e []) := by unfold S23_0; rw [hE c23_e]; kernel_rfl
theorem X23 : XTie S23 x23 := X_of fun D m E hE args h u => by unfold S23; rw [T23_0 hE]; kernel_rfl
/- 24 -/
def c24_e : XC := (.sO [.mv p2 (.c (.flt .f64 0)) .v] (.seq (.cond (cb true) (.seq (.oX [.mv p3 q0 .v, .P p4 (.xt .trunc [q3]) .v, .mv p2 q4 .v]) .ret) .skip) (.sO [.mv p5 q0 .v, .cl p6 42 [q5] .v, .mv p2 q6 .v] (.s .ret))))
def x24 : XFn := ⟨[.v], false, [(.tmp p2)], c24_e⟩
def e24_0 (k t0 h) := kN k [(p0, t0)] h
def S24_0 (D : CallD) (m : Nat) (t0 : AV) (h : HP) : Res2 :=
 obQ (evP (.xt .trunc [(.c t0)]) .leaf) fun t4 =>
 some (.ret t4 h, .no)
def S24 : SFn := fun D m args h u => nou u <| popV args fun t0 args => endA args (S24_0 D m t0 h)
theorem T24_0 (hE : FX x24 D m E) : S24_0 D m = e24_0 (E c24_e []) := by unfold S24_0; rw [hE c24_e]; kernel_rfl
theorem X24 : XTie S24 x24 := X_of fun D m E hE args h u => by unfold S24; rw [T24_0 hE]; kernel_rfl
/- 25 -/
def c25_e : XC := (.sO [.mv p2 (cb false) .b] (.sO [.mv p3 q0 .v, .mv p4 q0 .v, .bn p5 .neq q3 q4 .b, .mv p2 q5 .b] (.s .ret)))
def x25 : XFn := ⟨[.v], false, [(.tmp p2)], c25_e⟩
def e25_0 (k t0 h) := kN k [(p0, t0)] h
def S25_0 (D : CallD) (m : Nat) (t0 : AV) (h : HP) : Res2 :=
 binC .neq t0 t0 fun vt5 => asB vt5 fun t5 =>
 some (.ret (vB t5) h, .no)
def S25 : SFn := fun D m args h u => nou u <| popV args fun t0 args => endA args (S25_0 D m t0 h)
theorem T25_0 (hE : FX x25 D m E) : S25_0 D m = e25_0 (E c25_e []) := by unfold S25_0; rw [hE c25_e]; kernel_rfl
theorem X25 : XTie S25 x25 := X_of fun D m E hE args h u => by unfold S25; rw [T25_0 hE]; kernel_rfl
/- 26 -/
def c26_e : XC := (.sO [.mv p2 (.c (.int .u32 (.ofNat 0))) tW] (.sO [.mv p3 q0 tI, .P p4 (.conv (.ii .u32) q3) tW, .mv p2 q4 tW] (.s .ret)))
def x26 : XFn := ⟨[tI], false, [(.tmp p2)], c26_e⟩
def e26_0 (k t0 h) := kN k [(p0, (vI t0))] h
def S26_0 (D : CallD) (m : Nat) (t0 : Int) (h : HP) : Res2 :=
 let t4 := wrapF .u32 t0
 some (.ret (vW t4) h, .no)
def S26 : SFn := fun D m args h u => nou u <| popI .i64 args fun t0 args => endA args (S26_0 D m t0 h)
theorem T26_0 (hE : FX x26 D m E) : S26_0 D m = e26_0 (E c26_e []) := by unfold S26_0; rw [hE c26_e]; kernel_rfl
theorem X26 : XTie S26 x26 := X_of fun D m E hE args h u => by unfold S26; rw [T26_0 hE]; kernel_rfl
/- 27 -/
def v27_0 : List Pos := [p3]
def c27_0 : XC := (.sO [.mv p10 q3 tI, .P p11 (.conv (.ii .u32) q10) tW, .mv p2 q11 tW] (.s .ret))
def c27_e : XC := (.sO [.mv p2 (.c (.int .u32 (.ofNat 0))) tW] (.sO [.mv p4 q0 tI, .bn p5 .rem q4 (ci 4294967296) tI, .mv p3 q5 tI] (.sj v27_0 (.sO [.mv p6 q3 tI, .bn p7 .lss q6 (ci 0) .b] (.cond q7 (.s (.oX [.mv p8 q3 tI, .bn p9 .add q8 (ci 4294967296) tI, .mv p3 q9 tI])) (.s .skip))) c27_0)))
def x27 : XFn := ⟨[tI], false, [(.tmp p2)], c27_e⟩
def e27_0 (k t3 h) := kN k [(p3, (vI t3))] h
def S27_0 (D : CallD) (m : Nat) (t3 : Int) (h : HP) : Res2 :=
 let t11 := wrapF .u32 t3
 some (.ret (vW t11) h, .no)
def e27_1 (k t0 h) := kN k [(p0, (vI t0))] h
def S27_1 (D : CallD) (m : Nat) (t0 : Int) (h : HP) : Res2 :=
 let t5 := Int.tmod t0 (Int.ofNat 4294967296)
 let t7 := ltQ t5 (Int.ofNat 0)
 br t7 (
 let t9 := wrQ .i64 (addQ t5 (Int.ofNat 4294967296))
 S27_0 D m t9 h) (
 S27_0 D m t5 h)
def S27 : SFn := fun D m args h u => nou u <| popI .i64 args fun t0 args => endA args (S27_1 D m t0 h)
theorem T27_0 (hE : FX x27 D m E) : S27_0 D m = e27_0 (E c27_0 []) := by unfold S27_0; rw [hE c27_0]; kernel_rfl
theorem T27_1 (hE : FX x27 D m E) : S27_1 D m = e27_1 (E c27_e []) := by unfold S27_1; rw [T27_0 hE, hE c27_e]; kernel_rfl
theorem X27 : XTie S27 x27 := X_of fun D m E hE args h u => by unfold S27; rw [T27_1 hE]; kernel_rfl
/- 28 -/
def c28_e : XC := (.sO [.mv p4 (.c (.str [])) .s] (.sO [.mv p5 q0 (.i .u64), .mv p6 q1 tI, .cl p7 43 [q5, q6] .s, .mv p4 q7 .s] (.s .ret)))
def x28 : XFn := ⟨[(.i .u64), tI], false, [(.tmp p4)], c28_e⟩
def e28_0 (k t0 t1 h) := kN k [(p0, (AV.int .u64 t0)), (p1, (vI t1))] h
def S28_0 (D : CallD) (m : Nat) (t0 t1 : Int) (h : HP) : Res2 :=
 cal D 43 [(AV.int .u64 t0), (vI t1)] h fun t7 h1 =>
 asS t7 fun t7a =>
 some (.ret (vS t7a) h1, .no)
def S28 : SFn := fun D m args h u => nou u <| popI .u64 args fun t0 args => popI .i64 args fun t1 args => endA args (S28_0 D m t0 t1 h)
theorem T28_0 (hE : FX x28 D m E) : S28_0 D m = e28_0 (E c28_e []) := by unfold S28_0; rw [hE c28_e]; kernel_rfl
theorem X28 : XTie S28 x28 := X_of fun D m E hE args h u => by unfold S28; rw [T28_0 hE]; kernel_rfl
/- 29 -/
def v29_4 : List Pos := [p9]
def c29_4 : XC := (.sO [.cl p124 49 [q9] .s, .mv p4 q124 .s] (.s .ret))
def v29_5 : List Pos := [p7, p8, p9]
def c29_5b : XC := (.seq (.seq (.oX [.cl p111 48 [q9] tI, .mv p112 q7 tI, .bn p113 .lss q111 q112 .b]) (.cond q113 .skip (.exit 3))) (.block 4 (.sO [.mv p114 q7 tI, .cl p115 48 [q9] tI, .bn p116 .sub q114 q115 tI, .cl p117 48 [q9] tI, .mv p118 q8 tI, .P p119 (.mm false [q116, q117, q118]) tI, .mv p10 q119 tI] (.s (.oX [.cl p120 49 [q9] .s, .mv p121 q10 tI, .P p122 (.slice .str q120 none (some q121) none) .s, .cl p123 47 [q9, q122] .v])))))
def v29_3 : List Pos := [p0, p7, p8]
def c29_3 : XC := (.sO [.al p9 (.new [.nilp, .nils])] (.sO [.mv p107 q7 tI, .cl p108 46 [q9, q107] .v] (.sO [.mv p109 q0 .s, .cl p110 47 [q9, q109] .v] (.sj v29_4 (.block 3 (.loop v29_5 c29_5b)) c29_4))))
def v29_2 : List Pos := [p0, p7]
def c29_2 : XC := (.sO [.mv p94 q7 tI, .mv p8 q94 tI] (.sj v29_3 (.sO [.mv p95 q7 tI, .bn p96 .gtr q95 (ci 8192) .b] (.cond q96 (.sO [.mv p97 q0 .s, .P p98 (.lens q97) tI, .bn p99 .quo (ci 8192) q98 tI, .mv p100 q0 .s, .P p101 (.lens q100) tI, .bn p102 .mul q99 q101 tI, .mv p8 q102 tI] (.sO [.mv p103 q8 tI, .bn p104 .eql q103 (ci 0) .b] (.cond q104 (.s (.oX [.mv p105 q0 .s, .P p106 (.lens q105) tI, .mv p8 q106 tI])) (.s .skip)))) (.s .skip))) c29_3))
def c29_12 : XC := (.cond q85 (.sO [.mv p92 q7 tI, .P p93 (.slice .str (.c (.str [9, 9, 9, 9, 9, 9, 9, 9, 9, 9, 9, 9, 9, 9, 9, 9, 9, 9, 9, 9, 9, 9, 9, 9, 9, 9, 9, 9, 9, 9, 9, 9, 9, 9, 9, 9, 9, 9, 9, 9, 9, 9, 9, 9, 9, 9, 9, 9, 9, 9, 9, 9, 9, 9, 9, 9, 9, 9, 9, 9, 9, 9, 9, 9])) none (some q92) none) .s, .mv p4 q93 .s] (.s .ret)) (.s .skip))
def l29_11 : XL := (XL.of [.mv p85 q91 .b])
def c29_13 : XC := (.cond q76 (.sO [.mv p83 q7 tI, .P p84 (.slice .str (.c (.str [61, 61, 61, 61, 61, 61, 61, 61, 61, 61, 61, 61, 61, 61, 61, 61, 61, 61, 61, 61, 61, 61, 61, 61, 61, 61, 61, 61, 61, 61, 61, 61, 61, 61, 61, 61, 61, 61, 61, 61, 61, 61, 61, 61, 61, 61, 61, 61, 61, 61, 61, 61, 61, 61, 61, 61, 61, 61, 61, 61, 61, 61, 61, 61, 61, 61, 61, 61, 61, 61, 61, 61, 61, 61, 61, 61, 61, 61, 61, 61, 61, 61, 61, 61, 61, 61, 61, 61, 61, 61, 61, 61, 61, 61, 61, 61, 61, 61, 61, 61, 61, 61, 61, 61, 61, 61, 61, 61, 61, 61, 61, 61, 61, 61, 61, 61, 61, 61, 61, 61, 61, 61, 61, 61, 61, 61, 61, 61])) none (some q83) none) .s, .mv p4 q84 .s] (.s .ret)) (.opq false (XL.pre [.mv p86 q7 tI, .bn p87 .leq q86 (ci 64) .b, .mv p88 q87 .b, .sp p88, .G p88 true p89 (.mov q0) .s, .o ⟨(some p90), (.call (.fn 45) [(.c (.str [9, 9, 9, 9, 9, 9, 9, 9, 9, 9, 9, 9, 9, 9, 9, 9, 9, 9, 9, 9, 9, 9, 9, 9, 9, 9, 9, 9, 9, 9, 9, 9, 9, 9, 9, 9, 9, 9, 9, 9, 9, 9, 9, 9, 9, 9, 9, 9, 9, 9, 9, 9, 9, 9, 9, 9, 9, 9, 9, 9, 9, 9, 9, 9])), q89]), (some (p88, true)), []⟩ .b, .P p91 (.pick q88 q90 (cb false)) .b, .jn p88 [p0, p7, p91]] l29_11) c29_12))
def l29_10 : XL := (XL.of [.mv p76 q82 .b])
def c29_14 : XC := (.cond q67 (.sO [.mv p74 q7 tI, .P p75 (.slice .str (.c (.str [48, 48, 48, 48, 48, 48, 48, 48, 48, 48, 48, 48, 48, 48, 48, 48, 48, 48, 48, 48, 48, 48, 48, 48, 48, 48, 48, 48, 48, 48, 48, 48, 48, 48, 48, 48, 48, 48, 48, 48, 48, 48, 48, 48, 48, 48, 48, 48, 48, 48, 48, 48, 48, 48, 48, 48, 48, 48, 48, 48, 48, 48, 48, 48])) none (some q74) none) .s, .mv p4 q75 .s] (.s .ret)) (.opq false (XL.pre [.mv p77 q7 tI, .bn p78 .leq q77 (ci 128) .b, .mv p79 q78 .b, .sp p79, .G p79 true p80 (.mov q0) .s, .o ⟨(some p81), (.call (.fn 45) [(.c (.str [61, 61, 61, 61, 61, 61, 61, 61, 61, 61, 61, 61, 61, 61, 61, 61, 61, 61, 61, 61, 61, 61, 61, 61, 61, 61, 61, 61, 61, 61, 61, 61, 61, 61, 61, 61, 61, 61, 61, 61, 61, 61, 61, 61, 61, 61, 61, 61, 61, 61, 61, 61, 61, 61, 61, 61, 61, 61, 61, 61, 61, 61, 61, 61, 61, 61, 61, 61, 61, 61, 61, 61, 61, 61, 61, 61, 61, 61, 61, 61, 61, 61, 61, 61, 61, 61, 61, 61, 61, 61, 61, 61, 61, 61, 61, 61, 61, 61, 61, 61, 61, 61, 61, 61, 61, 61, 61, 61, 61, 61, 61, 61, 61, 61, 61, 61, 61, 61, 61, 61, 61, 61, 61, 61, 61, 61, 61, 61])), q80]), (some (p79, true)), []⟩ .b, .P p82 (.pick q79 q81 (cb false)) .b, .jn p79 [p0, p7, p82]] l29_10) c29_13))
def l29_9 : XL := (XL.of [.mv p67 q73 .b])
def c29_15 : XC := (.cond q58 (.sO [.mv p65 q7 tI, .P p66 (.slice .str (.c (.str [45, 45, 45, 45, 45, 45, 45, 45, 45, 45, 45, 45, 45, 45, 45, 45, 45, 45, 45, 45, 45, 45, 45, 45, 45, 45, 45, 45, 45, 45, 45, 45, 45, 45, 45, 45, 45, 45, 45, 45, 45, 45, 45, 45, 45, 45, 45, 45, 45, 45, 45, 45, 45, 45, 45, 45, 45, 45, 45, 45, 45, 45, 45, 45, 45, 45, 45, 45, 45, 45, 45, 45, 45, 45, 45, 45, 45, 45, 45, 45, 45, 45, 45, 45, 45, 45, 45, 45, 45, 45, 45, 45, 45, 45, 45, 45, 45, 45, 45, 45, 45, 45, 45, 45, 45, 45, 45, 45, 45, 45, 45, 45, 45, 45, 45, 45, 45, 45, 45, 45, 45, 45, 45, 45, 45, 45, 45, 45])) none (some q65) none) .s, .mv p4 q66 .s] (.s .ret)) (.opq false (XL.pre [.mv p68 q7 tI, .bn p69 .leq q68 (ci 64) .b, .mv p70 q69 .b, .sp p70, .G p70 true p71 (.mov q0) .s, .o ⟨(some p72), (.call (.fn 45) [(.c (.str [48, 48, 48, 48, 48, 48, 48, 48, 48, 48, 48, 48, 48, 48, 48, 48, 48, 48, 48, 48, 48, 48, 48, 48, 48, 48, 48, 48, 48, 48, 48, 48, 48, 48, 48, 48, 48, 48, 48, 48, 48, 48, 48, 48, 48, 48, 48, 48, 48, 48, 48, 48, 48, 48, 48, 48, 48, 48, 48, 48, 48, 48, 48, 48])), q71]), (some (p70, true)), []⟩ .b, .P p73 (.pick q70 q72 (cb false)) .b, .jn p70 [p0, p7, p73]] l29_9) c29_14))
def l29_8 : XL := (XL.of [.mv p58 q64 .b])
def c29_16 : XC := (.cond q49 (.sO [.mv p56 q7 tI, .P p57 (.slice .str (.c (.str [32, 32, 32, 32, 32, 32, 32, 32, 32, 32, 32, 32, 32, 32, 32, 32, 32, 32, 32, 32, 32, 32, 32, 32, 32, 32, 32, 32, 32, 32, 32, 32, 32, 32, 32, 32, 32, 32, 32, 32, 32, 32, 32, 32, 32, 32, 32, 32, 32, 32, 32, 32, 32, 32, 32, 32, 32, 32, 32, 32, 32, 32, 32, 32, 32, 32, 32, 32, 32, 32, 32, 32, 32, 32, 32, 32, 32, 32, 32, 32, 32, 32, 32, 32, 32, 32, 32, 32, 32, 32, 32, 32, 32, 32, 32, 32, 32, 32, 32, 32, 32, 32, 32, 32, 32, 32, 32, 32, 32, 32, 32, 32, 32, 32, 32, 32, 32, 32, 32, 32, 32, 32, 32, 32, 32, 32, 32, 32])) none (some q56) none) .s, .mv p4 q57 .s] (.s .ret)) (.opq false (XL.pre [.mv p59 q7 tI, .bn p60 .leq q59 (ci 128) .b, .mv p61 q60 .b, .sp p61, .G p61 true p62 (.mov q0) .s, .o ⟨(some p63), (.call (.fn 45) [(.c (.str [45, 45, 45, 45, 45, 45, 45, 45, 45, 45, 45, 45, 45, 45, 45, 45, 45, 45, 45, 45, 45, 45, 45, 45, 45, 45, 45, 45, 45, 45, 45, 45, 45, 45, 45, 45, 45, 45, 45, 45, 45, 45, 45, 45, 45, 45, 45, 45, 45, 45, 45, 45, 45, 45, 45, 45, 45, 45, 45, 45, 45, 45, 45, 45, 45, 45, 45, 45, 45, 45, 45, 45, 45, 45, 45, 45, 45, 45, 45, 45, 45, 45, 45, 45, 45, 45, 45, 45, 45, 45, 45, 45, 45, 45, 45, 45, 45, 45, 45, 45, 45, 45, 45, 45, 45, 45, 45, 45, 45, 45, 45, 45, 45, 45, 45, 45, 45, 45, 45, 45, 45, 45, 45, 45, 45, 45, 45, 45])), q62]), (some (p61, true)), []⟩ .b, .P p64 (.pick q61 q63 (cb false)) .b, .jn p61 [p0, p7, p64]] l29_8) c29_15))
def l29_7 : XL := (XL.of [.mv p49 q55 .b])
def v29_6 : List Pos := [p0, p7, p43]
def c29_6 : XC := (.cond q43 (.block 2 (.opq false (XL.pre [.mv p50 q7 tI, .bn p51 .leq q50 (ci 128) .b, .mv p52 q51 .b, .sp p52, .G p52 true p53 (.mov q0) .s, .o ⟨(some p54), (.call (.fn 45) [(.c (.str [32, 32, 32, 32, 32, 32, 32, 32, 32, 32, 32, 32, 32, 32, 32, 32, 32, 32, 32, 32, 32, 32, 32, 32, 32, 32, 32, 32, 32, 32, 32, 32, 32, 32, 32, 32, 32, 32, 32, 32, 32, 32, 32, 32, 32, 32, 32, 32, 32, 32, 32, 32, 32, 32, 32, 32, 32, 32, 32, 32, 32, 32, 32, 32, 32, 32, 32, 32, 32, 32, 32, 32, 32, 32, 32, 32, 32, 32, 32, 32, 32, 32, 32, 32, 32, 32, 32, 32, 32, 32, 32, 32, 32, 32, 32, 32, 32, 32, 32, 32, 32, 32, 32, 32, 32, 32, 32, 32, 32, 32, 32, 32, 32, 32, 32, 32, 32, 32, 32, 32, 32, 32, 32, 32, 32, 32, 32, 32])), q53]), (some (p52, true)), []⟩ .b, .P p55 (.pick q52 q54 (cb false)) .b, .jn p52 [p0, p7, p55]] l29_7) c29_16)) (.s .skip))
def v29_1 : List Pos := [p0, p6]
def c29_1 : XC := (.sO [.mv p36 q6 (.i .u64), .P p37 (.conv (.ii .i64) q36) tI, .mv p7 q37 tI] (.seq (.seq (.oX [.mv p38 q0 .s, .P p39 (.lens q38) tI, .bn p40 .eql q39 (ci 0) .b]) (.cond q40 (.seq (.oX [.mv p4 (.c (.str [])) .s]) .ret) .skip)) (.sj v29_2 (.sO [.mv p41 q0 .s, .P p42 (.idxs q41 (ci 0)) tC] (.block 1 (.sj v29_6 (.sO [.bn p44 .eql q42 (.c (.int .u8 (.ofNat 32))) .b, .mv p43 q44 .b] (.cond q43 (.s .skip) (.sO [.bn p45 .eql q42 (.c (.int .u8 (.ofNat 45))) .b, .mv p43 q45 .b] (.cond q43 (.s .skip) (.sO [.bn p46 .eql q42 (.c (.int .u8 (.ofNat 48))) .b, .mv p43 q46 .b] (.cond q43 (.s .skip) (.sO [.bn p47 .eql q42 (.c (.int .u8 (.ofNat 61))) .b, .mv p43 q47 .b] (.cond q43 (.s .skip) (.s (.oX [.bn p48 .eql q42 (.c (.int .u8 (.ofNat 9))) .b, .mv p43 q48 .b])))))))))) c29_6))) c29_2)))
def v29_0 : List Pos := [p0, p1]
def c29_0 : XC := (.sO [.mv p21 q0 .s, .P p22 (.lens q21) tI, .P p23 (.conv (.ii .u64) q22) (.i .u64), .mv p24 q1 tI, .P p25 (.conv (.ii .u64) q24) (.i .u64), .cl p26 44 [q23, q25] .v, .mv p20 q26 .v, .P p27 (.ext q20 0) (.i .u64), .P p28 (.ext q20 1) (.i .u64), .mv p5 q27 (.i .u64), .mv p6 q28 (.i .u64)] (.sj v29_1 (.sO [.mv p29 q5 (.i .u64), .bn p30 .gtr q29 (.c (.int .u64 (.ofNat 0))) .b, .mv p31 q30 .b, .ge p31 (XL.of [.G p31 false p32 (.mov q6) (.i .u64), .G p31 false p33 (.bin .gtr q32 (.c (.int .u64 (.ofNat 9223372036854775807)))) .b, .P p34 (.pick q31 (cb true) q33) .b]) p34 .b] (.cond q34 (.s (.oX [.P p35 (.mkif 9 (.c (.str [115, 116, 114, 105, 110, 103, 115, 58, 32, 82, 101, 112, 101, 97, 116, 32, 111, 117, 116, 112, 117, 116, 32, 108, 101, 110, 103, 116, 104, 32, 111, 118, 101, 114, 102, 108, 111, 119]))) .v, .o ⟨none, (.panic q35), none, []⟩ .v])) (.s .skip))) c29_1))
def c29_e : XC := (.sO [.mv p4 (.c (.str [])) .s] (.seq (.seq (.oX [.mv p11 q1 tI]) (.block 0 (.seq (.oX [.bn p13 .eql q11 (ci 0) .b, .mv p12 q13 .b]) (.cond q12 (.seq (.oX [.mv p4 (.c (.str [])) .s]) .ret) (.seq (.oX [.bn p15 .eql q11 (ci 1) .b, .mv p14 q15 .b]) (.cond q14 (.seq (.oX [.mv p16 q0 .s, .mv p4 q16 .s]) .ret) .skip)))))) (.sj v29_0 (.sO [.mv p17 q1 tI, .bn p18 .lss q17 (ci 0) .b] (.cond q18 (.s (.oX [.P p19 (.mkif 9 (.c (.str [115, 116, 114, 105, 110, 103, 115, 58, 32, 110, 101, 103, 97, 116, 105, 118, 101, 32, 82, 101, 112, 101, 97, 116, 32, 99, 111, 117, 110, 116]))) .v, .o ⟨none, (.panic q19), none, []⟩ .v])) (.s .skip))) c29_0)))
def x29 : XFn := ⟨[.s, tI], false, [(.tmp p4)], c29_e⟩
def e29_4 (k t9 h) := kN k [(p9, t9)] h
def S29_4 (D : CallD) (m : Nat) (t9 : AV) (h : HP) : Res2 :=
 cal D 49 [t9] h fun t124 h22 =>
 asS t124 fun t124a =>
 some (.ret (vS t124a) h22, .no)
def e29_5 (k t7 t8 t9 h) := kN k [(p7, (vI t7)), (p8, (vI t8)), (p9, t9)] h
def S29_5b (D : CallD) (m : Nat) (g5 : Int → Int → AV → HP → Res2) (t7 t8 : Int) (t9 : AV) (h : HP) : Res2 :=
 cal D 48 [t9] h fun t111 h23 =>
 asI .i64 t111 fun t111a =>
 let t113 := ltQ t111a t7
 br t113 (
 cal D 48 [t9] h23 fun t115 h24 =>
 asI .i64 t115 fun t115a =>
 let t116 := wrQ .i64 (t7 - t115a)
 cal D 48 [t9] h24 fun t117 h25 =>
 asI .i64 t117 fun t117a =>
 obI .i64 (evP (.mm false [(.c (vI t116)), (.c (vI t117a)), (.c (vI t8))]) .leaf) fun t119 =>
 cal D 49 [t9] h25 fun t120 h26 =>
 asS t120 fun t120a =>
 slC (vS t120a) none (some (vI t119)) fun vt122 => asS vt122 fun t122 =>
 cal D 47 [t9, (vS t122)] h26 fun t123 h27 =>
 g5 t7 t8 t9 h27) (
 S29_4 D m t9 h23)
def S29_5 (D : CallD) (m : Nat) : Int → Int → AV → HP → Res2 := nrec (fun _ _ _ _ => none) (fun _ g => S29_5b D m g) m
def e29_3 (k t0 t7 t8 h) := kN k [(p0, (vS t0)), (p7, (vI t7)), (p8, (vI t8))] h
def S29_3 (D : CallD) (m : Nat) (t0 : LN) (t7 t8 : Int) (h : HP) : Res2 :=
 let t9 := AV.ptr (HP.nxQ h) 0
 let h19 := HP.newQ h (.cells true [.nilp, .nils])
 cal D 46 [t9, (vI t7)] h19 fun t108 h20 =>
 cal D 47 [t9, (vS t0)] h20 fun t110 h21 =>
 S29_5 D m t7 t8 t9 h21
def e29_2 (k t0 t7 h) := kN k [(p0, (vS t0)), (p7, (vI t7))] h
def S29_2 (D : CallD) (m : Nat) (t0 : LN) (t7 : Int) (h : HP) : Res2 :=
 let t96 := ltQ (Int.ofNat 8192) t7
 br t96 (
 let t98 := Int.ofNat (lenL t0)
 obI .i64 (intBin .quo .i64 (Int.ofNat 8192) t98) fun t99 =>
 let t101 := Int.ofNat (lenL t0)
 let t102 := wrQ .i64 (t99 * t101)
 let t104 := eqQ t102 (Int.ofNat 0)
 br t104 (
 let t106 := Int.ofNat (lenL t0)
 S29_3 D m t0 t7 t106 h) (
 S29_3 D m t0 t7 t102 h)) (
 S29_3 D m t0 t7 t7 h)
def e29_11 (k t0 t7 t91 h) := kN k [(p0, (vS t0)), (p7, (vI t7)), (p91, (vB t91))] h
def S29_11 (D : CallD) (m : Nat) (t0 : LN) (t7 : Int) (t91 : Bool) (h : HP) : Res2 :=
 br t91 (
 slC (vS ([9, 9, 9, 9, 9, 9, 9, 9, 9, 9, 9, 9, 9, 9, 9, 9, 9, 9, 9, 9, 9, 9, 9, 9, 9, 9, 9, 9, 9, 9, 9, 9, 9, 9, 9, 9, 9, 9, 9, 9, 9, 9, 9, 9, 9, 9, 9, 9, 9, 9, 9, 9, 9, 9, 9, 9, 9, 9, 9, 9, 9, 9, 9, 9] : LN)) none (some (vI t7)) fun vt93 => asS vt93 fun t93 =>
 some (.ret (vS t93) h, .no)) (
 S29_2 D m t0 t7 h)
def e29_10 (k t0 t7 t82 h) := kN k [(p0, (vS t0)), (p7, (vI t7)), (p82, (vB t82))] h
def S29_10 (D : CallD) (m : Nat) (t0 : LN) (t7 : Int) (t82 : Bool) (h : HP) : Res2 :=
 br t82 (
 slC (vS ([61, 61, 61, 61, 61, 61, 61, 61, 61, 61, 61, 61, 61, 61, 61, 61, 61, 61, 61, 61, 61, 61, 61, 61, 61, 61, 61, 61, 61, 61, 61, 61, 61, 61, 61, 61, 61, 61, 61, 61, 61, 61, 61, 61, 61, 61, 61, 61, 61, 61, 61, 61, 61, 61, 61, 61, 61, 61, 61, 61, 61, 61, 61, 61, 61, 61, 61, 61, 61, 61, 61, 61, 61, 61, 61, 61, 61, 61, 61, 61, 61, 61, 61, 61, 61, 61, 61, 61, 61, 61, 61, 61, 61, 61, 61, 61, 61, 61, 61, 61, 61, 61, 61, 61, 61, 61, 61, 61, 61, 61, 61, 61, 61, 61, 61, 61, 61, 61, 61, 61, 61, 61, 61, 61, 61, 61, 61, 61] : LN)) none (some (vI t7)) fun vt84 => asS vt84 fun t84 =>
 some (.ret (vS t84) h, .no)) (
 let t87 := leQ t7 (Int.ofNat 64)
 br t87 (
 cal D 45 [(vS ([9, 9, 9, 9, 9, 9, 9, 9, 9, 9, 9, 9, 9, 9, 9, 9, 9, 9, 9, 9, 9, 9, 9, 9, 9, 9, 9, 9, 9, 9, 9, 9, 9, 9, 9, 9, 9, 9, 9, 9, 9, 9, 9, 9, 9, 9, 9, 9, 9, 9, 9, 9, 9, 9, 9, 9, 9, 9, 9, 9, 9, 9, 9, 9] : LN)), (vS t0)] h fun t90 h32 =>
 asB t90 fun t90a =>
 S29_11 D m t0 t7 t90a h32) (
 S29_11 D m t0 t7 false h))
def e29_9 (k t0 t7 t73 h) := kN k [(p0, (vS t0)), (p7, (vI t7)), (p73, (vB t73))] h
def S29_9 (D : CallD) (m : Nat) (t0 : LN) (t7 : Int) (t73 : Bool) (h : HP) : Res2 :=
 br t73 (
 slC (vS ([48, 48, 48, 48, 48, 48, 48, 48, 48, 48, 48, 48, 48, 48, 48, 48, 48, 48, 48, 48, 48, 48, 48, 48, 48, 48, 48, 48, 48, 48, 48, 48, 48, 48, 48, 48, 48, 48, 48, 48, 48, 48, 48, 48, 48, 48, 48, 48, 48, 48, 48, 48, 48, 48, 48, 48, 48, 48, 48, 48, 48, 48, 48, 48] : LN)) none (some (vI t7)) fun vt75 => asS vt75 fun t75 =>
 some (.ret (vS t75) h, .no)) (
 let t78 := leQ t7 (Int.ofNat 128)
 br t78 (
 cal D 45 [(vS ([61, 61, 61, 61, 61, 61, 61, 61, 61, 61, 61, 61, 61, 61, 61, 61, 61, 61, 61, 61, 61, 61, 61, 61, 61, 61, 61, 61, 61, 61, 61, 61, 61, 61, 61, 61, 61, 61, 61, 61, 61, 61, 61, 61, 61, 61, 61, 61, 61, 61, 61, 61, 61, 61, 61, 61, 61, 61, 61, 61, 61, 61, 61, 61, 61, 61, 61, 61, 61, 61, 61, 61, 61, 61, 61, 61, 61, 61, 61, 61, 61, 61, 61, 61, 61, 61, 61, 61, 61, 61, 61, 61, 61, 61, 61, 61, 61, 61, 61, 61, 61, 61, 61, 61, 61, 61, 61, 61, 61, 61, 61, 61, 61, 61, 61, 61, 61, 61, 61, 61, 61, 61, 61, 61, 61, 61, 61, 61] : LN)), (vS t0)] h fun t81 h31 =>
 asB t81 fun t81a =>
 S29_10 D m t0 t7 t81a h31) (
 S29_10 D m t0 t7 false h))
def e29_8 (k t0 t7 t64 h) := kN k [(p0, (vS t0)), (p7, (vI t7)), (p64, (vB t64))] h
def S29_8 (D : CallD) (m : Nat) (t0 : LN) (t7 : Int) (t64 : Bool) (h : HP) : Res2 :=
 br t64 (
 slC (vS ([45, 45, 45, 45, 45, 45, 45, 45, 45, 45, 45, 45, 45, 45, 45, 45, 45, 45, 45, 45, 45, 45, 45, 45, 45, 45, 45, 45, 45, 45, 45, 45, 45, 45, 45, 45, 45, 45, 45, 45, 45, 45, 45, 45, 45, 45, 45, 45, 45, 45, 45, 45, 45, 45, 45, 45, 45, 45, 45, 45, 45, 45, 45, 45, 45, 45, 45, 45, 45, 45, 45, 45, 45, 45, 45, 45, 45, 45, 45, 45, 45, 45, 45, 45, 45, 45, 45, 45, 45, 45, 45, 45, 45, 45, 45, 45, 45, 45, 45, 45, 45, 45, 45, 45, 45, 45, 45, 45, 45, 45, 45, 45, 45, 45, 45, 45, 45, 45, 45, 45, 45, 45, 45, 45, 45, 45, 45, 45] : LN)) none (some (vI t7)) fun vt66 => asS vt66 fun t66 =>
 some (.ret (vS t66) h, .no)) (
 let t69 := leQ t7 (Int.ofNat 64)
 br t69 (
 cal D 45 [(vS ([48, 48, 48, 48, 48, 48, 48, 48, 48, 48, 48, 48, 48, 48, 48, 48, 48, 48, 48, 48, 48, 48, 48, 48, 48, 48, 48, 48, 48, 48, 48, 48, 48, 48, 48, 48, 48, 48, 48, 48, 48, 48, 48, 48, 48, 48, 48, 48, 48, 48, 48, 48, 48, 48, 48, 48, 48, 48, 48, 48, 48, 48, 48, 48] : LN)), (vS t0)] h fun t72 h30 =>
 asB t72 fun t72a =>
 S29_9 D m t0 t7 t72a h30) (
 S29_9 D m t0 t7 false h))
def e29_7 (k t0 t7 t55 h) := kN k [(p0, (vS t0)), (p7, (vI t7)), (p55, (vB t55))] h
def S29_7 (D : CallD) (m : Nat) (t0 : LN) (t7 : Int) (t55 : Bool) (h : HP) : Res2 :=
 br t55 (
 slC (vS ([32, 32, 32, 32, 32, 32, 32, 32, 32, 32, 32, 32, 32, 32, 32, 32, 32, 32, 32, 32, 32, 32, 32, 32, 32, 32, 32, 32, 32, 32, 32, 32, 32, 32, 32, 32, 32, 32, 32, 32, 32, 32, 32, 32, 32, 32, 32, 32, 32, 32, 32, 32, 32, 32, 32, 32, 32, 32, 32, 32, 32, 32, 32, 32, 32, 32, 32, 32, 32, 32, 32, 32, 32, 32, 32, 32, 32, 32, 32, 32, 32, 32, 32, 32, 32, 32, 32, 32, 32, 32, 32, 32, 32, 32, 32, 32, 32, 32, 32, 32, 32, 32, 32, 32, 32, 32, 32, 32, 32, 32, 32, 32, 32, 32, 32, 32, 32, 32, 32, 32, 32, 32, 32, 32, 32, 32, 32, 32] : LN)) none (some (vI t7)) fun vt57 => asS vt57 fun t57 =>
 some (.ret (vS t57) h, .no)) (
 let t60 := leQ t7 (Int.ofNat 128)
 br t60 (
 cal D 45 [(vS ([45, 45, 45, 45, 45, 45, 45, 45, 45, 45, 45, 45, 45, 45, 45, 45, 45, 45, 45, 45, 45, 45, 45, 45, 45, 45, 45, 45, 45, 45, 45, 45, 45, 45, 45, 45, 45, 45, 45, 45, 45, 45, 45, 45, 45, 45, 45, 45, 45, 45, 45, 45, 45, 45, 45, 45, 45, 45, 45, 45, 45, 45, 45, 45, 45, 45, 45, 45, 45, 45, 45, 45, 45, 45, 45, 45, 45, 45, 45, 45, 45, 45, 45, 45, 45, 45, 45, 45, 45, 45, 45, 45, 45, 45, 45, 45, 45, 45, 45, 45, 45, 45, 45, 45, 45, 45, 45, 45, 45, 45, 45, 45, 45, 45, 45, 45, 45, 45, 45, 45, 45, 45, 45, 45, 45, 45, 45, 45] : LN)), (vS t0)] h fun t63 h29 =>
 asB t63 fun t63a =>
 S29_8 D m t0 t7 t63a h29) (
 S29_8 D m t0 t7 false h))
def e29_6 (k t0 t7 t43 h) := kN k [(p0, (vS t0)), (p7, (vI t7)), (p43, (vB t43))] h
def S29_6 (D : CallD) (m : Nat) (t0 : LN) (t7 : Int) (t43 : Bool) (h : HP) : Res2 :=
 br t43 (
 let t51 := leQ t7 (Int.ofNat 128)
 br t51 (
 cal D 45 [(vS ([32, 32, 32, 32, 32, 32, 32, 32, 32, 32, 32, 32, 32, 32, 32, 32, 32, 32, 32, 32, 32, 32, 32, 32, 32, 32, 32, 32, 32, 32, 32, 32, 32, 32, 32, 32, 32, 32, 32, 32, 32, 32, 32, 32, 32, 32, 32, 32, 32, 32, 32, 32, 32, 32, 32, 32, 32, 32, 32, 32, 32, 32, 32, 32, 32, 32, 32, 32, 32, 32, 32, 32, 32, 32, 32, 32, 32, 32, 32, 32, 32, 32, 32, 32, 32, 32, 32, 32, 32, 32, 32, 32, 32, 32, 32, 32, 32, 32, 32, 32, 32, 32, 32, 32, 32, 32, 32, 32, 32, 32, 32, 32, 32, 32, 32, 32, 32, 32, 32, 32, 32, 32, 32, 32, 32, 32, 32, 32] : LN)), (vS t0)] h fun t54 h28 =>
 asB t54 fun t54a =>
 S29_7 D m t0 t7 t54a h28) (
 S29_7 D m t0 t7 false h)) (
 S29_2 D m t0 t7 h)
def e29_1 (k t0 t6 h) := kN k [(p0, (vS t0)), (p6, (AV.int .u64 t6))] h
def S29_1 (D : CallD) (m : Nat) (t0 : LN) (t6 : Int) (h : HP) : Res2 :=
 let t37 := wrapF .i64 t6
 let t39 := Int.ofNat (lenL t0)
 let t40 := eqQ t39 (Int.ofNat 0)
 br t40 (
 some (.ret (vS ([] : LN)) h, .no)) (
 ixC (vS t0) (vI (Int.ofNat 0)) fun vt42 => asI .u8 vt42 fun t42 =>
 let t44 := eqQ t42 (Int.ofNat 32)
 br t44 (
 S29_6 D m t0 t37 t44 h) (
 let t45 := eqQ t42 (Int.ofNat 45)
 br t45 (
 S29_6 D m t0 t37 t45 h) (
 let t46 := eqQ t42 (Int.ofNat 48)
 br t46 (
 S29_6 D m t0 t37 t46 h) (
 let t47 := eqQ t42 (Int.ofNat 61)
 br t47 (
 S29_6 D m t0 t37 t47 h) (
 let t48 := eqQ t42 (Int.ofNat 9)
 S29_6 D m t0 t37 t48 h)))))
def e29_0 (k t0 t1 h) := kN k [(p0, (vS t0)), (p1, (vI t1))] h
def S29_0 (D : CallD) (m : Nat) (t0 : LN) (t1 : Int) (h : HP) : Res2 :=
 let t22 := Int.ofNat (lenL t0)
 let t23 := wrapF .u64 t22
 let t25 := wrapF .u64 t1
 cal D 44 [(AV.int .u64 t23), (AV.int .u64 t25)] h fun t26 h18 =>
 extC t26 0 fun vt27 => asI .u64 vt27 fun t27 =>
 extC t26 1 fun vt28 => asI .u64 vt28 fun t28 =>
 let t30 := ltQ (Int.ofNat 0) t27
 obB (brV t30 (
 some (vB true)) (
 let t33 := ltQ (Int.ofNat 9223372036854775807) t28
 some (vB t33))) fun t34 =>
 br t34 (
 let t35 := (AV.iface 9 (vS ([115, 116, 114, 105, 110, 103, 115, 58, 32, 82, 101, 112, 101, 97, 116, 32, 111, 117, 116, 112, 117, 116, 32, 108, 101, 110, 103, 116, 104, 32, 111, 118, 101, 114, 102, 108, 111, 119] : LN)))
 some (.pan [(.iface 9 (vS ([115, 116, 114, 105, 110, 103, 115, 58, 32, 82, 101, 112, 101, 97, 116, 32, 111, 117, 116, 112, 117, 116, 32, 108, 101, 110, 103, 116, 104, 32, 111, 118, 101, 114, 102, 108, 111, 119] : LN)), false)] h18, .no)) (
 S29_1 D m t0 t28 h18)
def e29_17 (k t0 t1 h) := kN k [(p0, (vS t0)), (p1, (vI t1))] h
def S29_17 (D : CallD) (m : Nat) (t0 : LN) (t1 : Int) (h : HP) : Res2 :=
 let t13 := eqQ t1 (Int.ofNat 0)
 br t13 (
 some (.ret (vS ([] : LN)) h, .no)) (
 let t15 := eqQ t1 (Int.ofNat 1)
 br t15 (
 some (.ret (vS t0) h, .no)) (
 let t18 := ltQ t1 (Int.ofNat 0)
 br t18 (
 let t19 := (AV.iface 9 (vS ([115, 116, 114, 105, 110, 103, 115, 58, 32, 110, 101, 103, 97, 116, 105, 118, 101, 32, 82, 101, 112, 101, 97, 116, 32, 99, 111, 117, 110, 116] : LN)))
 some (.pan [(.iface 9 (vS ([115, 116, 114, 105, 110, 103, 115, 58, 32, 110, 101, 103, 97, 116, 105, 118, 101, 32, 82, 101, 112, 101, 97, 116, 32, 99, 111, 117, 110, 116] : LN)), false)] h, .no)) (
 S29_0 D m t0 t1 h)))
def S29 : SFn := fun D m args h u => nou u <| popS args fun t0 args => popI .i64 args fun t1 args => endA args (S29_17 D m t0 t1 h)
theorem T29_4 (hE : FX x29 D m E) : S29_4 D m = e29_4 (E c29_4 []) := by unfold S29_4; rw [hE c29_4]; kernel_rfl
theorem T29_5b (hE : FX x29 D m E) (G5) : S29_5b D m (e29_5 G5) = e29_5 (E c29_5b [.lp v29_5 G5, .blk 3, .sj v29_4 c29_4]) := by unfold S29_5b; rw [T29_4 hE, hE c29_5b]; kernel_rfl
theorem T29_5 (hE : FX x29 D m E) : S29_5 D m = e29_5 (nrec (fun _ => none) (fun _ G5 st => E c29_5b [.lp v29_5 G5, .blk 3, .sj v29_4 c29_4] st) m) :=
  nrec_emb e29_5 (fun _ _ _ _ => none) (fun g => S29_5b D m g) (fun G5 st => E c29_5b [.lp v29_5 G5, .blk 3, .sj v29_4 c29_4] st) rfl (fun g => T29_5b hE g) m
theorem T29_3 (hE : FX x29 D m E) : S29_3 D m = e29_3 (E c29_3 []) := by unfold S29_3; rw [T29_5 hE, hE c29_3]; kernel_rfl
theorem T29_2 (hE : FX x29 D m E) : S29_2 D m = e29_2 (E c29_2 []) := by unfold S29_2; rw [T29_3 hE, hE c29_2]; kernel_rfl
theorem T29_11 (hE : FX x29 D m E) : S29_11 D m = e29_11 (E (.opq false l29_11 c29_12) [.blk 2, .blk 1, .sj v29_2 c29_2]) := by unfold S29_11; rw [T29_2 hE, hE (.opq false l29_11 c29_12)]; kernel_rfl
theorem T29_10 (hE : FX x29 D m E) : S29_10 D m = e29_10 (E (.opq false l29_10 c29_13) [.blk 2, .blk 1, .sj v29_2 c29_2]) := by unfold S29_10; rw [T29_11 hE, hE (.opq false l29_10 c29_13)]; kernel_rfl
theorem T29_9 (hE : FX x29 D m E) : S29_9 D m = e29_9 (E (.opq false l29_9 c29_14) [.blk 2, .blk 1, .sj v29_2 c29_2]) := by unfold S29_9; rw [T29_10 hE, hE (.opq false l29_9 c29_14)]; kernel_rfl
theorem T29_8 (hE : FX x29 D m E) : S29_8 D m = e29_8 (E (.opq false l29_8 c29_15) [.blk 2, .blk 1, .sj v29_2 c29_2]) := by unfold S29_8; rw [T29_9 hE, hE (.opq false l29_8 c29_15)]; kernel_rfl
theorem T29_7 (hE : FX x29 D m E) : S29_7 D m = e29_7 (E (.opq false l29_7 c29_16) [.blk 2, .blk 1, .sj v29_2 c29_2]) := by unfold S29_7; rw [T29_8 hE, hE (.opq false l29_7 c29_16)]; kernel_rfl
theorem T29_6 (hE : FX x29 D m E) : S29_6 D m = e29_6 (E c29_6 [.blk 1, .sj v29_2 c29_2]) := by unfold S29_6; rw [T29_7 hE, T29_2 hE, hE c29_6]; kernel_rfl
theorem T29_1 (hE : FX x29 D m E) : S29_1 D m = e29_1 (E c29_1 []) := by unfold S29_1; rw [T29_6 hE, hE c29_1]; kernel_rfl
theorem T29_0 (hE : FX x29 D m E) : S29_0 D m = e29_0 (E c29_0 []) := by unfold S29_0; rw [T29_1 hE, hE c29_0]; kernel_rfl
theorem T29_17 (hE : FX x29 D m E) : S29_17 D m = e29_17 (E c29_e []) := by unfold S29_17; rw [T29_0 hE, hE c29_e]; kernel_rfl
theorem X29 : XTie S29 x29 := X_of fun D m E hE args h u => by unfold S29; rw [T29_17 hE]; kernel_rfl
/- 30 -/
def c30_e : XC := (.sO [.mv p2 (ci 0) tI] (.sO [.mv p3 q0 tW, .P p4 (.conv (.ii .i32) q3) (.i .i32), .P p5 (.conv (.ii .i64) q4) tI, .mv p2 q5 tI] (.s .ret)))
def x30 : XFn := ⟨[tW], false, [(.tmp p2)], c30_e⟩
def e30_0 (k t0 h) := kN k [(p0, (vW t0))] h
def S30_0 (D : CallD) (m : Nat) (t0 : Int) (h : HP) : Res2 :=
 obI .i32 (convV (.ii .i32) (vW t0)) fun t4 =>
 let t5 := wrapF .i64 t4
 some (.ret (vI t5) h, .no)
def S30 : SFn := fun D m args h u => nou u <| popI .u32 args fun t0 args => endA args (S30_0 D m t0 h)
theorem T30_0 (hE : FX x30 D m E) : S30_0 D m = e30_0 (E c30_e []) := by unfold S30_0; rw [hE c30_e]; kernel_rfl
theorem X30 : XTie S30 x30 := X_of fun D m E hE args h u => by unfold S30; rw [T30_0 hE]; kernel_rfl
/- 31 -/
def c31_e : XC := (.sO [.mv p2 (ci 0) tI] (.sO [.mv p4 q0 tW, .P p5 (.conv (.ii .i64) q4) tI, .mv p3 q5 tI] (.seq (.seq (.oX [.mv p6 q3 tI, .bn p7 .geq q6 (ci 2147483648) .b]) (.cond q7 (.seq (.oX [.mv p8 q3 tI, .bn p9 .sub q8 (ci 4294967296) tI, .mv p2 q9 tI]) .ret) .skip)) (.sO [.mv p10 q3 tI, .mv p2 q10 tI] (.s .ret)))))
def x31 : XFn := ⟨[tW], false, [(.tmp p2)], c31_e⟩
def e31_0 (k t0 h) := kN k [(p0, (vW t0))] h
def S31_0 (D : CallD) (m : Nat) (t0 : Int) (h : HP) : Res2 :=
 obI .i64 (convV (.ii .i64) (vW t0)) fun t5 =>
 let t7 := leQ (Int.ofNat 2147483648) t5
 br t7 (
 let t9 := wrQ .i64 (t5 - (Int.ofNat 4294967296))
 some (.ret (vI t9) h, .no)) (
 some (.ret (vI t5) h, .no))
def S31 : SFn := fun D m args h u => nou u <| popI .u32 args fun t0 args => endA args (S31_0 D m t0 h)
theorem T31_0 (hE : FX x31 D m E) : S31_0 D m = e31_0 (E c31_e []) := by unfold S31_0; rw [hE c31_e]; kernel_rfl
theorem X31 : XTie S31 x31 := X_of fun D m E hE args h u => by unfold S31; rw [T31_0 hE]; kernel_rfl
/- 32 -/
def c32_e : XC := (.sO [.mv p4 (.c (.int .u64 (.ofNat 0))) (.i .u64)] (.seq (.seq (.oX [.mv p5 q0 (.i .u64), .bn p6 .eql q5 (.c (.int .u64 (.ofNat 1))) .b]) (.cond q6 (.seq (.oX [.mv p7 q1 (.i .u64), .bn p8 .add q7 (.c (.int .u64 (.ofNat 9223372036854775808))) (.i .u64), .mv p4 q8 (.i .u64)]) .ret) .skip)) (.sO [.mv p9 q1 (.i .u64), .mv p4 q9 (.i .u64)] (.s .ret))))
def x32 : XFn := ⟨[(.i .u64), (.i .u64)], false, [(.tmp p4)], c32_e⟩
def e32_0 (k t0 t1 h) := kN k [(p0, (AV.int .u64 t0)), (p1, (AV.int .u64 t1))] h
def S32_0 (D : CallD) (m : Nat) (t0 t1 : Int) (h : HP) : Res2 :=
 let t6 := eqQ t0 (Int.ofNat 1)
 br t6 (
 let t8 := wrQ .u64 (addQ t1 (Int.ofNat 9223372036854775808))
 some (.ret (AV.int .u64 t8) h, .no)) (
 some (.ret (AV.int .u64 t1) h, .no))
def S32 : SFn := fun D m args h u => nou u <| popI .u64 args fun t0 args => popI .u64 args fun t1 args => endA args (S32_0 D m t0 t1 h)
theorem T32_0 (hE : FX x32 D m E) : S32_0 D m = e32_0 (E c32_e []) := by unfold S32_0; rw [hE c32_e]; kernel_rfl
theorem X32 : XTie S32 x32 := X_of fun D m E hE args h u => by unfold S32; rw [T32_0 hE]; kernel_rfl
/- 33 -/
def v33_1 : List Pos := [p2, p8]
def c33_1 : XC := (.seq (.seq (.oX [.mv p75 q8 tI, .bn p76 .lss q75 (ci 4503599627370496) .b]) (.cond q76 (.seq (.oX [.mv p77 q8 tI, .P p78 (.conv (.ii .u64) q77) (.i .u64), .mv p6 q78 (.i .u64)]) .ret) .skip)) (.seq (.seq (.oX [.mv p79 q2 tI, .bn p80 .add q79 (ci 1075) tI, .bn p81 .geq q80 (ci 2047) .b]) (.cond q81 (.seq (.oX [.mv p6 (.c (.int .u64 (.ofNat 9218868437227405312))) (.i .u64)]) .ret) .skip)) (.sO [.mv p82 q2 tI, .bn p83 .add q82 (ci 1075) tI, .P p84 (.conv (.ii .u64) q83) (.i .u64), .bn p85 .mul q84 (.c (.int .u64 (.ofNat 4503599627370496))) (.i .u64), .mv p86 q8 tI, .P p87 (.conv (.ii .u64) q86) (.i .u64), .bn p88 .add q85 q87 (.i .u64), .bn p89 .sub q88 (.c (.int .u64 (.ofNat 4503599627370496))) (.i .u64), .mv p6 q89 (.i .u64)] (.s .ret))))
def v33_0 : List Pos := [p2, p7, p8]
def c33_0 : XC := (.sO [.mv p66 q2 tI, .mv p67 q7 tI, .bn p68 .sub q66 q67 tI, .mv p2 q68 tI] (.sj v33_1 (.sO [.mv p69 q8 tI, .bn p70 .eql q69 (ci 9007199254740992) .b] (.cond q70 (.sO [.mv p71 q8 tI, .bn p72 .quo q71 (ci 2) tI, .mv p8 q72 tI] (.s (.oX [.mv p73 q2 tI, .bn p74 .add q73 (ci 1) tI, .mv p2 q74 tI]))) (.s .skip))) c33_1))
def v33_5 : List Pos := [p0, p1, p2, p7]
def c33_5 : XC := (.s (.oX [.mv p64 q7 tI, .bn p65 .sub q64 (ci 1) tI, .mv p7 q65 tI]))
def v33_6 : List Pos := [p2, p7, p8]
def c33_6 : XC := (.s (.exit 0))
def v33_4 : List Pos := [p0, p1, p2, p7, p10, p11]
def c33_4 : XC := (.sO [.mv p40 q10 .v, .mv p41 q11 .v, .cl p42 52 [q40, q41] .v, .mv p39 q42 .v, .P p43 (.ext q39 0) tI, .P p44 (.ext q39 1) .v, .mv p8 q43 tI, .mv p9 q44 .v] (.sj v33_5 (.sO [.mv p45 q8 tI, .bn p46 .lss q45 (ci 9007199254740992) .b] (.cond q46 (.sO [.mv p47 q9 .v, .cl p48 51 [q47, (ci 1)] .v, .mv p49 q11 .v, .cl p50 53 [q48, q49] tI, .mv p12 q50 tI] (.sj v33_6 (.sO [.mv p51 q12 tI, .bn p52 .gtr q51 (ci 0) .b, .mv p53 q52 .b, .ge p53 (XL.of [.G p53 false p54 (.mov q12) tI, .G p53 false p55 (.bin .eql q54 (ci 0)) .b, .G p53 false p56 (.mov q55) .b, .ge p56 (XL.of [.G p56 true p57 (.mov q8) tI, .G p56 true p58 (.bin .rem q57 (ci 2)) tI, .G p56 true p59 (.bin .eql q58 (ci 1)) .b, .G p53 false p60 (.pick q56 q59 (cb false)) .b]) p60 .b, .P p61 (.pick q53 (cb true) q60) .b]) p61 .b] (.cond q61 (.s (.oX [.mv p62 q8 tI, .bn p63 .add q62 (ci 1) tI, .mv p8 q63 tI])) (.s .skip))) c33_6)) (.s .skip))) c33_5))
def v33_3 : List Pos := [p0, p1, p2, p7]
def c33_3 : XC := (.sO [.mv p28 q0 .v, .mv p29 q1 .v, .mv p10 q28 .v, .mv p11 q29 .v] (.sj v33_4 (.sO [.mv p30 q7 tI, .bn p31 .gtr q30 (ci 0) .b] (.cond q31 (.s (.oX [.mv p32 q0 .v, .mv p33 q7 tI, .cl p34 51 [q32, q33] .v, .mv p10 q34 .v])) (.s (.oX [.mv p35 q1 .v, .mv p36 q7 tI, .P p37 (.un .neg q36) tI, .cl p38 51 [q35, q37] .v, .mv p11 q38 .v])))) c33_4))
def v33_2 : List Pos := [p0, p1, p2, p7]
def c33_2b : XC := (.block 1 (.sj v33_3 (.sO [.mv p22 q2 tI, .mv p23 q7 tI, .bn p24 .sub q22 q23 tI, .bn p25 .lss q24 (.c (.int .i64 (.negSucc 1073))) .b] (.cond q25 (.s (.oX [.mv p26 q2 tI, .bn p27 .add q26 (ci 1074) tI, .mv p7 q27 tI])) (.s .skip))) c33_3))
def c33_e : XC := (.sO [.mv p6 (.c (.int .u64 (.ofNat 0))) (.i .u64)] (.seq (.seq (.oX [.mv p13 q0 .v, .P p14 (.lenl q13) tI, .bn p15 .eql q14 (ci 0) .b]) (.cond q15 (.seq (.oX [.mv p6 (.c (.int .u64 (.ofNat 0))) (.i .u64)]) .ret) .skip)) (.sO [.mv p16 q0 .v, .cl p17 50 [q16] tI, .bn p18 .sub (ci 53) q17 tI, .mv p19 q1 .v, .cl p20 50 [q19] tI, .bn p21 .add q18 q20 tI, .mv p7 q21 tI] (.sO [.mv p8 (ci 0) tI] (.sO [.mv p9 (.c .nils) .v] (.sj v33_0 (.block 0 (.loop v33_2 c33_2b)) c33_0))))))
def x33 : XFn := ⟨[.v, .v, tI], false, [(.tmp p6)], c33_e⟩
def e33_1 (k t2 t8 h) := kN k [(p2, (vI t2)), (p8, (vI t8))] h
def S33_1 (D : CallD) (m : Nat) (t2 t8 : Int) (h : HP) : Res2 :=
 let t76 := ltQ t8 (Int.ofNat 4503599627370496)
 br t76 (
 let t78 := wrapF .u64 t8
 some (.ret (AV.int .u64 t78) h, .no)) (
 let t80 := wrQ .i64 (addQ t2 (Int.ofNat 1075))
 let t81 := leQ (Int.ofNat 2047) t80
 br t81 (
 some (.ret (AV.int .u64 (Int.ofNat 9218868437227405312)) h, .no)) (
 let t83 := wrQ .i64 (addQ t2 (Int.ofNat 1075))
 let t84 := wrapF .u64 t83
 let t85 := wrQ .u64 (t84 * (Int.ofNat 4503599627370496))
 let t87 := wrapF .u64 t8
 let t88 := wrQ .u64 (addQ t85 t87)
 let t89 := wrQ .u64 (t88 - (Int.ofNat 4503599627370496))
 some (.ret (AV.int .u64 t89) h, .no)))
def e33_0 (k t2 t7 t8 h) := kN k [(p2, (vI t2)), (p7, (vI t7)), (p8, (vI t8))] h
def S33_0 (D : CallD) (m : Nat) (t2 t7 t8 : Int) (h : HP) : Res2 :=
 let t68 := wrQ .i64 (t2 - t7)
 let t70 := eqQ t8 (Int.ofNat 9007199254740992)
 br t70 (
 let t72 := wrapF .i64 (Int.tdiv t8 (Int.ofNat 2))
 let t74 := wrQ .i64 (addQ t68 (Int.ofNat 1))
 S33_1 D m t74 t72 h) (
 S33_1 D m t68 t8 h)
def e33_5 (k t0 t1 t2 t7 h) := kN k [(p0, t0), (p1, t1), (p2, (vI t2)), (p7, (vI t7))] h
def S33_5 (D : CallD) (m : Nat) (g2 : AV → AV → Int → Int → HP → Res2) (t0 t1 : AV) (t2 t7 : Int) (h : HP) : Res2 :=
 let t65 := wrQ .i64 (t7 - (Int.ofNat 1))
 g2 t0 t1 t2 t65 h
def e33_6 (k t2 t7 t8 h) := kN k [(p2, (vI t2)), (p7, (vI t7)), (p8, (vI t8))] h
def S33_6 (D : CallD) (m : Nat) (g2 : AV → AV → Int → Int → HP → Res2) (t2 t7 t8 : Int) (h : HP) : Res2 :=
 S33_0 D m t2 t7 t8 h
def e33_4 (k t0 t1 t2 t7 t10 t11 h) := kN k [(p0, t0), (p1, t1), (p2, (vI t2)), (p7, (vI t7)), (p10, t10), (p11, t11)] h
def S33_4 (D : CallD) (m : Nat) (g2 : AV → AV → Int → Int → HP → Res2) (t0 t1 : AV) (t2 t7 : Int) (t10 t11 : AV) (h : HP) : Res2 :=
 cal D 52 [t10, t11] h fun t42 h10 =>
 extC t42 0 fun vt43 => asI .i64 vt43 fun t43 =>
 extC t42 1 fun t44 =>
 let t46 := ltQ t43 (Int.ofNat 9007199254740992)
 br t46 (
 cal D 51 [t44, (vI (Int.ofNat 1))] h10 fun t48 h11 =>
 cal D 53 [t48, t11] h11 fun t50 h12 =>
 asI .i64 t50 fun t50a =>
 let t52 := ltQ (Int.ofNat 0) t50a
 obB (brV t52 (
 some (vB true)) (
 let t55 := eqQ t50a (Int.ofNat 0)
 obBV (brV t55 (
 let t58 := Int.tmod t43 (Int.ofNat 2)
 let t59 := eqQ t58 (Int.ofNat 1)
 some (vB t59)) (
 some (vB false))) fun t60 =>
 some (vB t60))) fun t61 =>
 br t61 (
 let t63 := wrQ .i64 (addQ t43 (Int.ofNat 1))
 S33_6 D m g2 t2 t7 t63 h12) (
 S33_6 D m g2 t2 t7 t43 h12)) (
 S33_5 D m g2 t0 t1 t2 t7 h10)
def e33_3 (k t0 t1 t2 t7 h) := kN k [(p0, t0), (p1, t1), (p2, (vI t2)), (p7, (vI t7))] h
def S33_3 (D : CallD) (m : Nat) (g2 : AV → AV → Int → Int → HP → Res2) (t0 t1 : AV) (t2 t7 : Int) (h : HP) : Res2 :=
 let t31 := ltQ (Int.ofNat 0) t7
 br t31 (
 cal D 51 [t0, (vI t7)] h fun t34 h13 =>
 S33_4 D m g2 t0 t1 t2 t7 t34 t1 h13) (
 let t37 := IntKind.wrap .i64 (0 - t7)
 cal D 51 [t1, (vI t37)] h fun t38 h14 =>
 S33_4 D m g2 t0 t1 t2 t7 t0 t38 h14)
def e33_2 (k t0 t1 t2 t7 h) := kN k [(p0, t0), (p1, t1), (p2, (vI t2)), (p7, (vI t7))] h
def S33_2b (D : CallD) (m : Nat) (g2 : AV → AV → Int → Int → HP → Res2) (t0 t1 : AV) (t2 t7 : Int) (h : HP) : Res2 :=
 let t24 := wrQ .i64 (t2 - t7)
 let t25 := ltQ t24 (Int.negSucc 1073)
 br t25 (
 let t27 := wrQ .i64 (addQ t2 (Int.ofNat 1074))
 S33_3 D m g2 t0 t1 t2 t27 h) (
 S33_3 D m g2 t0 t1 t2 t7 h)
def S33_2 (D : CallD) (m : Nat) : AV → AV → Int → Int → HP → Res2 := nrec (fun _ _ _ _ _ => none) (fun _ g => S33_2b D m g) m
def e33_7 (k t0 t1 t2 h) := kN k [(p0, t0), (p1, t1), (p2, (vI t2))] h
def S33_7 (D : CallD) (m : Nat) (t0 t1 : AV) (t2 : Int) (h : HP) : Res2 :=
 lenC t0 fun vt14 => asI .i64 vt14 fun t14 =>
 let t15 := eqQ t14 (Int.ofNat 0)
 br t15 (
 some (.ret (AV.int .u64 (Int.ofNat 0)) h, .no)) (
 cal D 50 [t0] h fun t17 h8 =>
 asI .i64 t17 fun t17a =>
 let t18 := wrQ .i64 ((Int.ofNat 53) - t17a)
 cal D 50 [t1] h8 fun t20 h9 =>
 asI .i64 t20 fun t20a =>
 let t21 := wrQ .i64 (addQ t18 t20a)
 S33_2 D m t0 t1 t2 t21 h9)
def S33 : SFn := fun D m args h u => nou u <| popV args fun t0 args => popV args fun t1 args => popI .i64 args fun t2 args => endA args (S33_7 D m t0 t1 t2 h)
theorem T33_1 (hE : FX x33 D m E) : S33_1 D m = e33_1 (E c33_1 []) := by unfold S33_1; rw [hE c33_1]; kernel_rfl
theorem T33_0 (hE : FX x33 D m E) : S33_0 D m = e33_0 (E c33_0 []) := by unfold S33_0; rw [T33_1 hE, hE c33_0]; kernel_rfl
theorem T33_5 (hE : FX x33 D m E) (G2) : S33_5 D m (e33_2 G2) = e33_5 (E c33_5 [.blk 1, .lp v33_2 G2, .blk 0, .sj v33_0 c33_0]) := by unfold S33_5; rw [hE c33_5]; kernel_rfl
theorem T33_6 (hE : FX x33 D m E) (G2) : S33_6 D m (e33_2 G2) = e33_6 (E c33_6 [.sj v33_5 c33_5, .blk 1, .lp v33_2 G2, .blk 0, .sj v33_0 c33_0]) := by unfold S33_6; rw [T33_0 hE, hE c33_6]; kernel_rfl
theorem T33_4 (hE : FX x33 D m E) (G2) : S33_4 D m (e33_2 G2) = e33_4 (E c33_4 [.blk 1, .lp v33_2 G2, .blk 0, .sj v33_0 c33_0]) := by unfold S33_4; rw [T33_6 hE G2, T33_5 hE G2, hE c33_4]; kernel_rfl
theorem T33_3 (hE : FX x33 D m E) (G2) : S33_3 D m (e33_2 G2) = e33_3 (E c33_3 [.blk 1, .lp v33_2 G2, .blk 0, .sj v33_0 c33_0]) := by unfold S33_3; rw [T33_4 hE G2, hE c33_3]; kernel_rfl
theorem T33_2b (hE : FX x33 D m E) (G2) : S33_2b D m (e33_2 G2) = e33_2 (E c33_2b [.lp v33_2 G2, .blk 0, .sj v33_0 c33_0]) := by unfold S33_2b; rw [T33_3 hE G2, hE c33_2b]; kernel_rfl
theorem T33_2 (hE : FX x33 D m E) : S33_2 D m = e33_2 (nrec (fun _ => none) (fun _ G2 st => E c33_2b [.lp v33_2 G2, .blk 0, .sj v33_0 c33_0] st) m) :=
  nrec_emb e33_2 (fun _ _ _ _ _ => none) (fun g => S33_2b D m g) (fun G2 st => E c33_2b [.lp v33_2 G2, .blk 0, .sj v33_0 c33_0] st) rfl (fun g => T33_2b hE g) m
theorem T33_7 (hE : FX x33 D m E) : S33_7 D m = e33_7 (E c33_e []) := by unfold S33_7; rw [T33_2 hE, hE c33_e]; kernel_rfl
theorem X33 : XTie S33 x33 := X_of fun D m E hE args h u => by unfold S33; rw [T33_7 hE]; kernel_rfl
/- 34 -/
def v34_0 : List Pos := [p3]
def c34_0 : XC := (.sO [.mv p13 q3 .v, .mv p2 q13 .v] (.s .ret))
def v34_1 : List Pos := [p0, p3]
def c34_1b : XC := (.seq (.seq (.oX [.mv p4 q0 tI, .bn p5 .gtr q4 (ci 0) .b]) (.cond q5 .skip (.exit 0))) (.block 1 (.sO [.mv p6 q3 .v, .mv p7 q0 tI, .bn p8 .rem q7 (ci 65536) tI, .al p9 (.bsl [(kI 0)] 1 [⟨0, 1, q8⟩]), .o ⟨(some p10), (.e (.app 1 8 q6 q9)), none, []⟩ .v, .mv p3 q10 .v] (.s (.oX [.mv p11 q0 tI, .bn p12 .quo q11 (ci 65536) tI, .mv p0 q12 tI])))))
def c34_e : XC := (.sO [.mv p2 (.c .nils) .v] (.sO [.mv p3 (.c .nils) .v] (.sj v34_0 (.block 0 (.loop v34_1 c34_1b)) c34_0)))
def x34 : XFn := ⟨[tI], false, [(.tmp p2)], c34_e⟩
def e34_0 (k t3 h) := kN k [(p3, t3)] h
def S34_0 (D : CallD) (m : Nat) (t3 : AV) (h : HP) : Res2 :=
 some (.ret t3 h, .no)
def e34_1 (k t0 t3 h) := kN k [(p0, (vI t0)), (p3, t3)] h
def S34_1b (D : CallD) (m : Nat) (g1 : Int → AV → HP → Res2) (t0 : Int) (t3 : AV) (h : HP) : Res2 :=
 let t5 := ltQ (Int.ofNat 0) t0
 br t5 (
 let t8 := Int.tmod t0 (Int.ofNat 65536)
 let t9 := AV.slice (HP.nxQ h) 0 1 (.exact 1)
 let h3 := HP.newQ h (.cells true [(vI t8)])
 eff (.app 1 8 (.c t3) (.c t9)) h3 fun t10 h4 =>
 let t12 := wrapF .i64 (Int.tdiv t0 (Int.ofNat 65536))
 g1 t12 t10 h4) (
 S34_0 D m t3 h)
def S34_1 (D : CallD) (m : Nat) : Int → AV → HP → Res2 := nrec (fun _ _ _ => none) (fun _ g => S34_1b D m g) m
def e34_2 (k t0 h) := kN k [(p0, (vI t0))] h
def S34_2 (D : CallD) (m : Nat) (t0 : Int) (h : HP) : Res2 :=
 S34_1 D m t0 (.nils : AV) h
def S34 : SFn := fun D m args h u => nou u <| popI .i64 args fun t0 args => endA args (S34_2 D m t0 h)
theorem T34_0 (hE : FX x34 D m E) : S34_0 D m = e34_0 (E c34_0 []) := by unfold S34_0; rw [hE c34_0]; kernel_rfl
theorem T34_1b (hE : FX x34 D m E) (G1) : S34_1b D m (e34_1 G1) = e34_1 (E c34_1b [.lp v34_1 G1, .blk 0, .sj v34_0 c34_0]) := by unfold S34_1b; rw [T34_0 hE, hE c34_1b]; kernel_rfl
theorem T34_1 (hE : FX x34 D m E) : S34_1 D m = e34_1 (nrec (fun _ => none) (fun _ G1 st => E c34_1b [.lp v34_1 G1, .blk 0, .sj v34_0 c34_0] st) m) :=
  nrec_emb e34_1 (fun _ _ _ => none) (fun g => S34_1b D m g) (fun G1 st => E c34_1b [.lp v34_1 G1, .blk 0, .sj v34_0 c34_0] st) rfl (fun g => T34_1b hE g) m
theorem T34_2 (hE : FX x34 D m E) : S34_2 D m = e34_2 (E c34_e []) := by unfold S34_2; rw [T34_1 hE, hE c34_e]; kernel_rfl
theorem X34 : XTie S34 x34 := X_of fun D m E hE args h u => by unfold S34; rw [T34_2 hE]; kernel_rfl
/- 35 -/
def c35_e : XC := (.sO [.mv p6 (.c (.int .u64 (.ofNat 0))) (.i .u64), .mv p7 (.c .nili) .v] (.sO [.mv p11 q0 .s, .mv p12 q1 tI, .mv p13 q2 tI, .cl p14 54 [q11, q12, q13] .v, .mv p10 q14 .v, .P p15 (.ext q10 0) (.i .u64), .P p16 (.ext q10 1) .v, .mv p8 q15 (.i .u64), .mv p9 q16 .v] (.seq (.seq (.oX [.mv p17 q9 .v, .P p18 (.eqn .ifc true q17 (.c .nili)) .b]) (.cond q18 (.seq (.oX [.mv p19 q8 (.i .u64), .mv p20 q0 .s, .mv p21 q1 tI, .mv p22 q2 tI, .mv p23 q9 .v, .cl p24 55 [(.c (.str [80, 97, 114, 115, 101, 85, 105, 110, 116])), q20, q21, q22, q23] .v, .mv p6 q19 (.i .u64), .mv p7 q24 .v]) .ret) .skip)) (.sO [.mv p25 q8 (.i .u64), .mv p6 q25 (.i .u64), .mv p7 (.c .nili) .v] (.s .ret)))))
def x35 : XFn := ⟨[.s, tI, tI], false, [(.tmp p6), (.tmp p7)], c35_e⟩
def e35_0 (k t0 t1 t2 h) := kN k [(p0, (vS t0)), (p1, (vI t1)), (p2, (vI t2))] h
def S35_0 (D : CallD) (m : Nat) (t0 : LN) (t1 t2 : Int) (h : HP) : Res2 :=
 cal D 54 [(vS t0), (vI t1), (vI t2)] h fun t14 h1 =>
 extC t14 0 fun vt15 => asI .u64 vt15 fun t15 =>
 extC t14 1 fun t16 =>
 obB (evP (.eqn .ifc true (.c t16) (.c (.nili : AV))) .leaf) fun t18 =>
 br t18 (
 cal D 55 [(vS ([80, 97, 114, 115, 101, 85, 105, 110, 116] : LN)), (vS t0), (vI t1), (vI t2), t16] h1 fun t24 h2 =>
 some (.ret (.tup [(AV.int .u64 t15), t24]) h2, .no)) (
 some (.ret (.tup [(AV.int .u64 t15), (.nili : AV)]) h1, .no))
def S35 : SFn := fun D m args h u => nou u <| popS args fun t0 args => popI .i64 args fun t1 args => popI .i64 args fun t2 args => endA args (S35_0 D m t0 t1 t2 h)
theorem T35_0 (hE : FX x35 D m E) : S35_0 D m = e35_0 (E c35_e []) := by unfold S35_0; rw [hE c35_e]; kernel_rfl
theorem X35 : XTie S35 x35 := X_of fun D m E hE args h u => by unfold S35; rw [T35_0 hE]; kernel_rfl
/- 36 -/
def c36_e : XC := (.sO [.mv p2 (.c (.str [])) .s, .mv p3 (cb false) .b] (.sO [.mv p5 q0 .s, .cl p6 56 [q5, (.c (.str [48, 49, 50, 51, 52, 53, 54, 55, 56, 57]))] .s, .mv p4 q6 .s] (.sO [.mv p7 q4 .s, .mv p8 q4 .s, .P p9 (.lens q8) tI, .mv p10 q0 .s, .P p11 (.lens q10) tI, .bn p12 .lss q9 q11 .b, .mv p2 q7 .s, .mv p3 q12 .b] (.s .ret))))
def x36 : XFn := ⟨[.s], false, [(.tmp p2), (.tmp p3)], c36_e⟩
def e36_0 (k t0 h) := kN k [(p0, (vS t0))] h
def S36_0 (D : CallD) (m : Nat) (t0 : LN) (h : HP) : Res2 :=
 cal D 56 [(vS t0), (vS ([48, 49, 50, 51, 52, 53, 54, 55, 56, 57] : LN))] h fun t6 h1 =>
 asS t6 fun t6a =>
 let t9 := Int.ofNat (lenL t6a)
 let t11 := Int.ofNat (lenL t0)
 let t12 := ltQ t9 t11
 some (.ret (.tup [(vS t6a), (vB t12)]) h1, .no)
def S36 : SFn := fun D m args h u => nou u <| popS args fun t0 args => endA args (S36_0 D m t0 h)
theorem T36_0 (hE : FX x36 D m E) : S36_0 D m = e36_0 (E c36_e []) := by unfold S36_0; rw [hE c36_e]; kernel_rfl
theorem X36 : XTie S36 x36 := X_of fun D m E hE args h u => by unfold S36; rw [T36_0 hE]; kernel_rfl
/- 37 -/
def c37_e : XC := (.sO [.mv p4 (.c (.str [])) .s, .mv p5 (cb false) .b] (.sO [.mv p6 q0 .s, .mv p7 q1 .s, .cl p8 57 [q6, q7] .v, .P p9 (.ext q8 0) .s, .P p10 (.ext q8 1) .b, .mv p4 q9 .s, .mv p5 q10 .b] (.s .ret)))
def x37 : XFn := ⟨[.s, .s], false, [(.tmp p4), (.tmp p5)], c37_e⟩
def e37_0 (k t0 t1 h) := kN k [(p0, (vS t0)), (p1, (vS t1))] h
def S37_0 (D : CallD) (m : Nat) (t0 t1 : LN) (h : HP) : Res2 :=
 cal D 57 [(vS t0), (vS t1)] h fun t8 h1 =>
 extC t8 0 fun vt9 => asS vt9 fun t9 =>
 extC t8 1 fun vt10 => asB vt10 fun t10 =>
 some (.ret (.tup [(vS t9), (vB t10)]) h1, .no)
def S37 : SFn := fun D m args h u => nou u <| popS args fun t0 args => popS args fun t1 args => endA args (S37_0 D m t0 t1 h)
theorem T37_0 (hE : FX x37 D m E) : S37_0 D m = e37_0 (E c37_e []) := by unfold S37_0; rw [hE c37_e]; kernel_rfl
theorem X37 : XTie S37 x37 := X_of fun D m E hE args h u => by unfold S37; rw [T37_0 hE]; kernel_rfl
/- 38 -/
def c38_e : XC := (.sO [.mv p4 (.c (.flt .f64 0)) .v, .mv p5 (.c .nili) .v] (.sO [.mv p9 q0 .s, .mv p10 q1 tI, .cl p11 58 [q9, q10] .v, .mv p8 q11 .v, .P p12 (.ext q8 0) .v, .P p13 (.ext q8 1) .v, .mv p6 q12 .v, .mv p7 q13 .v] (.seq (.seq (.oX [.mv p14 q7 .v, .P p15 (.eqn .ifc true q14 (.c .nili)) .b]) (.cond q15 (.seq (.oX [.mv p16 q6 .v, .mv p17 q0 .s, .mv p18 q1 tI, .mv p19 q7 .v, .cl p20 55 [(.c (.str [80, 97, 114, 115, 101, 70, 108, 111, 97, 116])), q17, (ci 0), q18, q19] .v, .mv p4 q16 .v, .mv p5 q20 .v]) .ret) .skip)) (.sO [.mv p21 q6 .v, .mv p4 q21 .v, .mv p5 (.c .nili) .v] (.s .ret)))))
def x38 : XFn := ⟨[.s, tI], false, [(.tmp p4), (.tmp p5)], c38_e⟩
def e38_0 (k t0 t1 h) := kN k [(p0, (vS t0)), (p1, (vI t1))] h
def S38_0 (D : CallD) (m : Nat) (t0 : LN) (t1 : Int) (h : HP) : Res2 :=
 cal D 58 [(vS t0), (vI t1)] h fun t11 h1 =>
 extC t11 0 fun t12 =>
 extC t11 1 fun t13 =>
 obB (evP (.eqn .ifc true (.c t13) (.c (.nili : AV))) .leaf) fun t15 =>
 br t15 (
 cal D 55 [(vS ([80, 97, 114, 115, 101, 70, 108, 111, 97, 116] : LN)), (vS t0), (vI (Int.ofNat 0)), (vI t1), t13] h1 fun t20 h2 =>
 some (.ret (.tup [t12, t20]) h2, .no)) (
 some (.ret (.tup [t12, (.nili : AV)]) h1, .no))
def S38 : SFn := fun D m args h u => nou u <| popS args fun t0 args => popI .i64 args fun t1 args => endA args (S38_0 D m t0 t1 h)
theorem T38_0 (hE : FX x38 D m E) : S38_0 D m = e38_0 (E c38_e []) := by unfold S38_0; rw [hE c38_e]; kernel_rfl
theorem X38 : XTie S38 x38 := X_of fun D m E hE args h u => by unfold S38; rw [T38_0 hE]; kernel_rfl
/- 43 -/
def c43_e : XC := (.sO [.mv p4 (.c (.str [])) .s] (.seq (.seq (.oX [.mv p9 q1 tI, .bn p10 .eql q9 (ci 10) .b]) (.cond q10 (.seq (.seq (.oX [.mv p11 q0 (.i .u64), .bn p12 .lss q11 (.c (.int .u64 (.ofNat 100))) .b]) (.cond q12 (.seq (.oX [.mv p13 q0 (.i .u64), .P p14 (.conv (.ii .i64) q13) tI, .cl p15 60 [q14] .s, .mv p4 q15 .s]) .ret) .skip)) (.seq (.oX [.al p5 (.new [(.int .u8 (.ofNat 0)), (.int .u8 (.ofNat 0)), (.int .u8 (.ofNat 0)), (.int .u8 (.ofNat 0)), (.int .u8 (.ofNat 0)), (.int .u8 (.ofNat 0)), (.int .u8 (.ofNat 0)), (.int .u8 (.ofNat 0)), (.int .u8 (.ofNat 0)), (.int .u8 (.ofNat 0)), (.int .u8 (.ofNat 0)), (.int .u8 (.ofNat 0)), (.int .u8 (.ofNat 0)), (.int .u8 (.ofNat 0)), (.int .u8 (.ofNat 0)), (.int .u8 (.ofNat 0)), (.int .u8 (.ofNat 0)), (.int .u8 (.ofNat 0)), (.int .u8 (.ofNat 0)), (.int .u8 (.ofNat 0)), (.int .u8 (.ofNat 0)), (.int .u8 (.ofNat 0)), (.int .u8 (.ofNat 0)), (.int .u8 (.ofNat 0))])]) (.seq (.oX [.mv p16 q0 (.i .u64), .cl p17 61 [q16] tI, .mv p6 q17 tI]) (.seq (.oX [.mv p18 q6 tI, .P p19 (.slice (.arr 24 1) q5 none (some q18) none) .v, .mv p20 q0 (.i .u64), .cl p21 62 [q19, q20] .v]) (.seq (.oX [.mv p22 q6 tI, .P p23 (.slice (.arr 24 1) q5 none (some q22) none) .v, .L p24 (.bstr q23) .s, .mv p4 q24 .s]) .ret))))) .skip)) (.sO [.mv p26 q0 (.i .u64), .mv p27 q1 tI, .cl p28 63 [(.c .nils), q26, q27, (cb false), (cb false)] .v, .mv p25 q28 .v, .P p29 (.ext q25 0) .v, .P p30 (.ext q25 1) .s, .mv p7 q29 .v, .mv p8 q30 .s] (.sO [.mv p31 q8 .s, .mv p4 q31 .s] (.s .ret)))))
def x43 : XFn := ⟨[(.i .u64), tI], false, [(.tmp p4)], c43_e⟩
def e43_0 (k t0 t1 h) := kN k [(p0, (AV.int .u64 t0)), (p1, (vI t1))] h
def S43_0 (D : CallD) (m : Nat) (t0 t1 : Int) (h : HP) : Res2 :=
 let t10 := eqQ t1 (Int.ofNat 10)
 br t10 (
 let t12 := ltQ t0 (Int.ofNat 100)
 br t12 (
 let t14 := wrapF .i64 t0
 cal D 60 [(vI t14)] h fun t15 h1 =>
 asS t15 fun t15a =>
 some (.ret (vS t15a) h1, .no)) (
 let t5 := AV.ptr (HP.nxQ h) 0
 let h2 := HP.newQ h (.cells true [(.int .u8 (.ofNat 0)), (.int .u8 (.ofNat 0)), (.int .u8 (.ofNat 0)), (.int .u8 (.ofNat 0)), (.int .u8 (.ofNat 0)), (.int .u8 (.ofNat 0)), (.int .u8 (.ofNat 0)), (.int .u8 (.ofNat 0)), (.int .u8 (.ofNat 0)), (.int .u8 (.ofNat 0)), (.int .u8 (.ofNat 0)), (.int .u8 (.ofNat 0)), (.int .u8 (.ofNat 0)), (.int .u8 (.ofNat 0)), (.int .u8 (.ofNat 0)), (.int .u8 (.ofNat 0)), (.int .u8 (.ofNat 0)), (.int .u8 (.ofNat 0)), (.int .u8 (.ofNat 0)), (.int .u8 (.ofNat 0)), (.int .u8 (.ofNat 0)), (.int .u8 (.ofNat 0)), (.int .u8 (.ofNat 0)), (.int .u8 (.ofNat 0))])
 cal D 61 [(AV.int .u64 t0)] h2 fun t17 h3 =>
 asI .i64 t17 fun t17a =>
 obQ (evP (.slice (.arr 24 1) (.c t5) none (some (.c (vI t17a))) none) .leaf) fun t19 =>
 cal D 62 [t19, (AV.int .u64 t0)] h3 fun t21 h4 =>
 obQ (evP (.slice (.arr 24 1) (.c t5) none (some (.c (vI t17a))) none) .leaf) fun t23 =>
 obS (bstrV t23 h4) fun t24 =>
 some (.ret (vS t24) h4, .no))) (
 cal D 63 [(.nils : AV), (AV.int .u64 t0), (vI t1), (vB false), (vB false)] h fun t28 h5 =>
 extC t28 0 fun t29 =>
 extC t28 1 fun vt30 => asS vt30 fun t30 =>
 some (.ret (vS t30) h5, .no))
def S43 : SFn := fun D m args h u => nou u <| popI .u64 args fun t0 args => popI .i64 args fun t1 args => endA args (S43_0 D m t0 t1 h)
theorem T43_0 (hE : FX x43 D m E) : S43_0 D m = e43_0 (E c43_e []) := by unfold S43_0; rw [hE c43_e]; kernel_rfl
theorem X43 : XTie S43 x43 := X_of fun D m E hE args h u => by unfold S43; rw [T43_0 hE]; kernel_rfl
/- 45 -/
def c45_e : XC := (.sO [.mv p4 (cb false) .b] (.sO [.mv p5 q0 .s, .mv p6 q1 .s, .cl p7 66 [q5, q6] .b, .mv p4 q7 .b] (.s .ret)))
def x45 : XFn := ⟨[.s, .s], false, [(.tmp p4)], c45_e⟩
def e45_0 (k t0 t1 h) := kN k [(p0, (vS t0)), (p1, (vS t1))] h
def S45_0 (D : CallD) (m : Nat) (t0 t1 : LN) (h : HP) : Res2 :=
 cal D 66 [(vS t0), (vS t1)] h fun t7 h1 =>
 asB t7 fun t7a =>
 some (.ret (vB t7a) h1, .no)
def S45 : SFn := fun D m args h u => nou u <| popS args fun t0 args => popS args fun t1 args => endA args (S45_0 D m t0 t1 h)
theorem T45_0 (hE : FX x45 D m E) : S45_0 D m = e45_0 (E c45_e []) := by unfold S45_0; rw [hE c45_e]; kernel_rfl
theorem X45 : XTie S45 x45 := X_of fun D m E hE args h u => by unfold S45; rw [T45_0 hE]; kernel_rfl
/- 50 -/
def v50_0 : List Pos := [p3]
def c50_0 : XC := (.sO [.mv p24 q3 tI, .mv p2 q24 tI] (.s .ret))
def v50_1 : List Pos := [p3, p4]
def c50_1b : XC := (.seq (.seq (.oX [.mv p18 q4 tI, .bn p19 .gtr q18 (ci 0) .b]) (.cond q19 .skip (.exit 0))) (.seq (.block 1 (.oX [.mv p22 q3 tI, .bn p23 .add q22 (ci 1) tI, .mv p3 q23 tI])) (.s (.oX [.mv p20 q4 tI, .bn p21 .quo q20 (ci 2) tI, .mv p4 q21 tI]))))
def c50_e : XC := (.sO [.mv p2 (ci 0) tI] (.seq (.seq (.oX [.mv p5 q0 .v, .P p6 (.lenl q5) tI, .bn p7 .eql q6 (ci 0) .b]) (.cond q7 (.seq (.oX [.mv p2 (ci 0) tI]) .ret) .skip)) (.sO [.mv p8 q0 .v, .P p9 (.lenl q8) tI, .bn p10 .sub q9 (ci 1) tI, .bn p11 .mul (ci 16) q10 tI, .mv p3 q11 tI] (.sj v50_0 (.sO [.mv p12 q0 .v, .mv p13 q0 .v, .P p14 (.lenl q13) tI, .bn p15 .sub q14 (ci 1) tI, .P p16 (.iaddr (.sl 1) q12 q15) .v, .ld p17 q16 tI, .mv p4 q17 tI] (.block 0 (.loop v50_1 c50_1b))) c50_0))))
def x50 : XFn := ⟨[.v], false, [(.tmp p2)], c50_e⟩
def e50_0 (k t3 h) := kN k [(p3, (vI t3))] h
def S50_0 (D : CallD) (m : Nat) (t3 : Int) (h : HP) : Res2 :=
 some (.ret (vI t3) h, .no)
def e50_1 (k t3 t4 h) := kN k [(p3, (vI t3)), (p4, (vI t4))] h
def S50_1b (D : CallD) (m : Nat) (g1 : Int → Int → HP → Res2) (t3 t4 : Int) (h : HP) : Res2 :=
 let t19 := ltQ (Int.ofNat 0) t4
 br t19 (
 let t23 := wrQ .i64 (addQ t3 (Int.ofNat 1))
 let t21 := wrapF .i64 (Int.tdiv t4 (Int.ofNat 2))
 g1 t23 t21 h) (
 S50_0 D m t3 h)
def S50_1 (D : CallD) (m : Nat) : Int → Int → HP → Res2 := nrec (fun _ _ _ => none) (fun _ g => S50_1b D m g) m
def e50_2 (k t0 h) := kN k [(p0, t0)] h
def S50_2 (D : CallD) (m : Nat) (t0 : AV) (h : HP) : Res2 :=
 lenC t0 fun vt6 => asI .i64 vt6 fun t6 =>
 let t7 := eqQ t6 (Int.ofNat 0)
 br t7 (
 some (.ret (vI (Int.ofNat 0)) h, .no)) (
 lenC t0 fun vt9 => asI .i64 vt9 fun t9 =>
 let t10 := wrQ .i64 (t9 - (Int.ofNat 1))
 let t11 := wrQ .i64 ((Int.ofNat 16) * t10)
 lenC t0 fun vt14 => asI .i64 vt14 fun t14 =>
 let t15 := wrQ .i64 (t14 - (Int.ofNat 1))
 iasC 1 t0 (vI t15) fun t16 =>
 ldI t16 h fun t17 =>
 S50_1 D m t11 t17 h)
def S50 : SFn := fun D m args h u => nou u <| popV args fun t0 args => endA args (S50_2 D m t0 h)
theorem T50_0 (hE : FX x50 D m E) : S50_0 D m = e50_0 (E c50_0 []) := by unfold S50_0; rw [hE c50_0]; kernel_rfl
theorem T50_1b (hE : FX x50 D m E) (G1) : S50_1b D m (e50_1 G1) = e50_1 (E c50_1b [.lp v50_1 G1, .blk 0, .sj v50_0 c50_0]) := by unfold S50_1b; rw [T50_0 hE, hE c50_1b]; kernel_rfl
theorem T50_1 (hE : FX x50 D m E) : S50_1 D m = e50_1 (nrec (fun _ => none) (fun _ G1 st => E c50_1b [.lp v50_1 G1, .blk 0, .sj v50_0 c50_0] st) m) :=
  nrec_emb e50_1 (fun _ _ _ => none) (fun g => S50_1b D m g) (fun G1 st => E c50_1b [.lp v50_1 G1, .blk 0, .sj v50_0 c50_0] st) rfl (fun g => T50_1b hE g) m
theorem T50_2 (hE : FX x50 D m E) : S50_2 D m = e50_2 (E c50_e []) := by unfold S50_2; rw [T50_1 hE, hE c50_e]; kernel_rfl
theorem X50 : XTie S50 x50 := X_of fun D m E hE args h u => by unfold S50; rw [T50_2 hE]; kernel_rfl
/- 51 -/
def v51_2 : List Pos := [p5]
def c51_2 : XC := (.sO [.mv p47 q5 .v, .mv p4 q47 .v] (.s .ret))
def v51_3 : List Pos := [p5, p9, p35, p36]
def c51_3b : XC := (.sO [.bn p37 .lss q36 q35 .b] (.seq (.cond q37 .skip (.exit 4)) (.seq (.block 5 (.seq (.oX [.mv p38 q36 tI, .mv p10 q38 tI]) (.oX [.mv p39 q5 .v, .mv p40 q9 .v, .mv p41 q10 tI, .P p42 (.iaddr (.sl 1) q40 q41) .v, .ld p43 q42 tI, .al p44 (.bsl [(kI 0)] 1 [⟨0, 1, q43⟩]), .o ⟨(some p45), (.e (.app 1 8 q39 q44)), none, []⟩ .v, .mv p5 q45 .v]))) (.s (.oX [.bn p46 .add q36 (ci 1) tI, .mv p36 q46 tI])))))
def v51_1 : List Pos := [p0, p5, p7]
def c51_1 : XC := (.sO [.mv p31 q0 .v, .mv p32 q7 tI, .cl p33 69 [q31, q32] .v, .mv p9 q33 .v] (.sj v51_2 (.sO [.mv p34 q9 .v, .P p35 (.lenl q34) tI, .mv p36 (ci 0) tI] (.block 4 (.loop v51_3 c51_3b))) c51_2))
def v51_4 : List Pos := [p0, p1, p5, p7, p8]
def c51_4b : XC := (.seq (.seq (.oX [.mv p23 q8 tI, .mv p24 q1 tI, .bn p25 .rem q24 (ci 16) tI, .bn p26 .lss q23 q25 .b]) (.cond q26 .skip (.exit 2))) (.seq (.block 3 (.oX [.mv p29 q7 tI, .bn p30 .mul q29 (ci 2) tI, .mv p7 q30 tI])) (.s (.oX [.mv p27 q8 tI, .bn p28 .add q27 (ci 1) tI, .mv p8 q28 tI]))))
def v51_0 : List Pos := [p0, p1, p5]
def c51_0 : XC := (.sO [.mv p7 (ci 1) tI] (.sj v51_1 (.sO [.mv p8 (ci 0) tI] (.block 2 (.loop v51_4 c51_4b))) c51_1))
def v51_5 : List Pos := [p0, p1, p5, p6]
def c51_5b : XC := (.seq (.seq (.oX [.mv p14 q6 tI, .mv p15 q1 tI, .bn p16 .quo q15 (ci 16) tI, .bn p17 .lss q14 q16 .b]) (.cond q17 .skip (.exit 0))) (.seq (.block 1 (.oX [.mv p20 q5 .v, .al p21 (.bsl [(kI 0)] 1 [⟨0, 1, (ci 0)⟩]), .o ⟨(some p22), (.e (.app 1 8 q20 q21)), none, []⟩ .v, .mv p5 q22 .v])) (.s (.oX [.mv p18 q6 tI, .bn p19 .add q18 (ci 1) tI, .mv p6 q19 tI]))))
def c51_e : XC := (.sO [.mv p4 (.c .nils) .v] (.seq (.seq (.oX [.mv p11 q0 .v, .P p12 (.lenl q11) tI, .bn p13 .eql q12 (ci 0) .b]) (.cond q13 (.seq (.oX [.mv p4 (.c .nils) .v]) .ret) .skip)) (.sO [.mv p5 (.c .nils) .v] (.sj v51_0 (.sO [.mv p6 (ci 0) tI] (.block 0 (.loop v51_5 c51_5b))) c51_0))))
def x51 : XFn := ⟨[.v, tI], false, [(.tmp p4)], c51_e⟩
def e51_2 (k t5 h) := kN k [(p5, t5)] h
def S51_2 (D : CallD) (m : Nat) (t5 : AV) (h : HP) : Res2 :=
 some (.ret t5 h, .no)
def e51_3 (k t5 t9 t35 t36 h) := kN k [(p5, t5), (p9, t9), (p35, (vI t35)), (p36, (vI t36))] h
def S51_3b (D : CallD) (m : Nat) (g3 : AV → AV → Int → Int → HP → Res2) (t5 t9 : AV) (t35 t36 : Int) (h : HP) : Res2 :=
 let t37 := ltQ t36 t35
 br t37 (
 iasC 1 t9 (vI t36) fun t42 =>
 ldI t42 h fun t43 =>
 let t44 := AV.slice (HP.nxQ h) 0 1 (.exact 1)
 let h8 := HP.newQ h (.cells true [(vI t43)])
 eff (.app 1 8 (.c t5) (.c t44)) h8 fun t45 h9 =>
 let t46 := wrQ .i64 (addQ t36 (Int.ofNat 1))
 g3 t45 t9 t35 t46 h9) (
 S51_2 D m t5 h)
def S51_3 (D : CallD) (m : Nat) : AV → AV → Int → Int → HP → Res2 := nrec (fun _ _ _ _ _ => none) (fun _ g => S51_3b D m g) m
def e51_1 (k t0 t5 t7 h) := kN k [(p0, t0), (p5, t5), (p7, (vI t7))] h
def S51_1 (D : CallD) (m : Nat) (t0 t5 : AV) (t7 : Int) (h : HP) : Res2 :=
 cal D 69 [t0, (vI t7)] h fun t33 h7 =>
 lenC t33 fun vt35 => asI .i64 vt35 fun t35 =>
 S51_3 D m t5 t33 t35 (Int.ofNat 0) h7
def e51_4 (k t0 t1 t5 t7 t8 h) := kN k [(p0, t0), (p1, (vI t1)), (p5, t5), (p7, (vI t7)), (p8, (vI t8))] h
def S51_4b (D : CallD) (m : Nat) (g4 : AV → Int → AV → Int → Int → HP → Res2) (t0 : AV) (t1 : Int) (t5 : AV) (t7 t8 : Int) (h : HP) : Res2 :=
 let t25 := Int.tmod t1 (Int.ofNat 16)
 let t26 := ltQ t8 t25
 br t26 (
 let t30 := wrQ .i64 (t7 * (Int.ofNat 2))
 let t28 := wrQ .i64 (addQ t8 (Int.ofNat 1))
 g4 t0 t1 t5 t30 t28 h) (
 S51_1 D m t0 t5 t7 h)
def S51_4 (D : CallD) (m : Nat) : AV → Int → AV → Int → Int → HP → Res2 := nrec (fun _ _ _ _ _ _ => none) (fun _ g => S51_4b D m g) m
def e51_0 (k t0 t1 t5 h) := kN k [(p0, t0), (p1, (vI t1)), (p5, t5)] h
def S51_0 (D : CallD) (m : Nat) (t0 : AV) (t1 : Int) (t5 : AV) (h : HP) : Res2 :=
 S51_4 D m t0 t1 t5 (Int.ofNat 1) (Int.ofNat 0) h
def e51_5 (k t0 t1 t5 t6 h) := kN k [(p0, t0), (p1, (vI t1)), (p5, t5), (p6, (vI t6))] h
def S51_5b (D : CallD) (m : Nat) (g5 : AV → Int → AV → Int → HP → Res2) (t0 : AV) (t1 : Int) (t5 : AV) (t6 : Int) (h : HP) : Res2 :=
 let t16 := wrapF .i64 (Int.tdiv t1 (Int.ofNat 16))
 let t17 := ltQ t6 t16
 br t17 (
 let t21 := AV.slice (HP.nxQ h) 0 1 (.exact 1)
 let h10 := HP.newQ h (.cells true [(vI (Int.ofNat 0))])
 eff (.app 1 8 (.c t5) (.c t21)) h10 fun t22 h11 =>
 let t19 := wrQ .i64 (addQ t6 (Int.ofNat 1))
 g5 t0 t1 t22 t19 h11) (
 S51_0 D m t0 t1 t5 h)
def S51_5 (D : CallD) (m : Nat) : AV → Int → AV → Int → HP → Res2 := nrec (fun _ _ _ _ _ => none) (fun _ g => S51_5b D m g) m
def e51_6 (k t0 t1 h) := kN k [(p0, t0), (p1, (vI t1))] h
def S51_6 (D : CallD) (m : Nat) (t0 : AV) (t1 : Int) (h : HP) : Res2 :=
 lenC t0 fun vt12 => asI .i64 vt12 fun t12 =>
 let t13 := eqQ t12 (Int.ofNat 0)
 br t13 (
 some (.ret (.nils : AV) h, .no)) (
 S51_5 D m t0 t1 (.nils : AV) (Int.ofNat 0) h)
def S51 : SFn := fun D m args h u => nou u <| popV args fun t0 args => popI .i64 args fun t1 args => endA args (S51_6 D m t0 t1 h)
theorem T51_2 (hE : FX x51 D m E) : S51_2 D m = e51_2 (E c51_2 []) := by unfold S51_2; rw [hE c51_2]; kernel_rfl
theorem T51_3b (hE : FX x51 D m E) (G3) : S51_3b D m (e51_3 G3) = e51_3 (E c51_3b [.lp v51_3 G3, .blk 4, .sj v51_2 c51_2]) := by unfold S51_3b; rw [T51_2 hE, hE c51_3b]; kernel_rfl
theorem T51_3 (hE : FX x51 D m E) : S51_3 D m = e51_3 (nrec (fun _ => none) (fun _ G3 st => E c51_3b [.lp v51_3 G3, .blk 4, .sj v51_2 c51_2] st) m) :=
  nrec_emb e51_3 (fun _ _ _ _ _ => none) (fun g => S51_3b D m g) (fun G3 st => E c51_3b [.lp v51_3 G3, .blk 4, .sj v51_2 c51_2] st) rfl (fun g => T51_3b hE g) m
theorem T51_1 (hE : FX x51 D m E) : S51_1 D m = e51_1 (E c51_1 []) := by unfold S51_1; rw [T51_3 hE, hE c51_1]; kernel_rfl
theorem T51_4b (hE : FX x51 D m E) (G4) : S51_4b D m (e51_4 G4) = e51_4 (E c51_4b [.lp v51_4 G4, .blk 2, .sj v51_1 c51_1]) := by unfold S51_4b; rw [T51_1 hE, hE c51_4b]; kernel_rfl
theorem T51_4 (hE : FX x51 D m E) : S51_4 D m = e51_4 (nrec (fun _ => none) (fun _ G4 st => E c51_4b [.lp v51_4 G4, .blk 2, .sj v51_1 c51_1] st) m) :=
  nrec_emb e51_4 (fun _ _ _ _ _ _ => none) (fun g => S51_4b D m g) (fun G4 st => E c51_4b [.lp v51_4 G4, .blk 2, .sj v51_1 c51_1] st) rfl (fun g => T51_4b hE g) m
theorem T51_0 (hE : FX x51 D m E) : S51_0 D m = e51_0 (E c51_0 []) := by unfold S51_0; rw [T51_4 hE, hE c51_0]; kernel_rfl
theorem T51_5b (hE : FX x51 D m E) (G5) : S51_5b D m (e51_5 G5) = e51_5 (E c51_5b [.lp v51_5 G5, .blk 0, .sj v51_0 c51_0]) := by unfold S51_5b; rw [T51_0 hE, hE c51_5b]; kernel_rfl
theorem T51_5 (hE : FX x51 D m E) : S51_5 D m = e51_5 (nrec (fun _ => none) (fun _ G5 st => E c51_5b [.lp v51_5 G5, .blk 0, .sj v51_0 c51_0] st) m) :=
  nrec_emb e51_5 (fun _ _ _ _ _ => none) (fun g => S51_5b D m g) (fun G5 st => E c51_5b [.lp v51_5 G5, .blk 0, .sj v51_0 c51_0] st) rfl (fun g => T51_5b hE g) m
theorem T51_6 (hE : FX x51 D m E) : S51_6 D m = e51_6 (E c51_e []) := by unfold S51_6; rw [T51_5 hE, hE c51_e]; kernel_rfl
theorem X51 : XTie S51 x51 := X_of fun D m E hE args h u => by unfold S51; rw [T51_6 hE]; kernel_rfl
/- 52 -/
def v52_0 : List Pos := [p0, p6]
def c52_0 : XC := (.sO [.mv p27 q6 tI, .mv p28 q0 .v, .mv p4 q27 tI, .mv p5 q28 .v] (.s .ret))
def v52_2 : List Pos := [p0, p6, p7, p8]
def c52_2 : XC := (.sO [.mv p23 q8 .v, .cl p24 71 [q23] .v, .mv p8 q24 .v] (.s (.oX [.mv p25 q7 tI, .bn p26 .quo q25 (ci 2) tI, .mv p7 q26 tI])))
def v52_1 : List Pos := [p0, p6, p7, p8]
def c52_1b : XC := (.seq (.seq (.oX [.mv p11 q7 tI, .bn p12 .gtr q11 (ci 0) .b]) (.cond q12 .skip (.exit 0))) (.block 1 (.sj v52_2 (.sO [.mv p13 q0 .v, .mv p14 q8 .v, .cl p15 53 [q13, q14] tI, .bn p16 .geq q15 (ci 0) .b] (.cond q16 (.sO [.mv p17 q0 .v, .mv p18 q8 .v, .cl p19 70 [q17, q18] .v, .mv p0 q19 .v] (.s (.oX [.mv p20 q6 tI, .mv p21 q7 tI, .bn p22 .add q20 q21 tI, .mv p6 q22 tI]))) (.s .skip))) c52_2)))
def c52_e : XC := (.sO [.mv p4 (ci 0) tI, .mv p5 (.c .nils) .v] (.sO [.mv p6 (ci 0) tI, .mv p7 (ci 72057594037927936) tI] (.sO [.mv p9 q1 .v, .cl p10 51 [q9, (ci 56)] .v, .mv p8 q10 .v] (.sj v52_0 (.block 0 (.loop v52_1 c52_1b)) c52_0))))
def x52 : XFn := ⟨[.v, .v], false, [(.tmp p4), (.tmp p5)], c52_e⟩
def e52_0 (k t0 t6 h) := kN k [(p0, t0), (p6, (vI t6))] h
def S52_0 (D : CallD) (m : Nat) (t0 : AV) (t6 : Int) (h : HP) : Res2 :=
 some (.ret (.tup [(vI t6), t0]) h, .no)
def e52_2 (k t0 t6 t7 t8 h) := kN k [(p0, t0), (p6, (vI t6)), (p7, (vI t7)), (p8, t8)] h
def S52_2 (D : CallD) (m : Nat) (g1 : AV → Int → Int → AV → HP → Res2) (t0 : AV) (t6 t7 : Int) (t8 : AV) (h : HP) : Res2 :=
 cal D 71 [t8] h fun t24 h5 =>
 let t26 := wrapF .i64 (Int.tdiv t7 (Int.ofNat 2))
 g1 t0 t6 t26 t24 h5
def e52_1 (k t0 t6 t7 t8 h) := kN k [(p0, t0), (p6, (vI t6)), (p7, (vI t7)), (p8, t8)] h
def S52_1b (D : CallD) (m : Nat) (g1 : AV → Int → Int → AV → HP → Res2) (t0 : AV) (t6 t7 : Int) (t8 : AV) (h : HP) : Res2 :=
 let t12 := ltQ (Int.ofNat 0) t7
 br t12 (
 cal D 53 [t0, t8] h fun t15 h6 =>
 asI .i64 t15 fun t15a =>
 let t16 := leQ (Int.ofNat 0) t15a
 br t16 (
 cal D 70 [t0, t8] h6 fun t19 h7 =>
 let t22 := wrQ .i64 (addQ t6 t7)
 S52_2 D m g1 t19 t22 t7 t8 h7) (
 S52_2 D m g1 t0 t6 t7 t8 h6)) (
 S52_0 D m t0 t6 h)
def S52_1 (D : CallD) (m : Nat) : AV → Int → Int → AV → HP → Res2 := nrec (fun _ _ _ _ _ => none) (fun _ g => S52_1b D m g) m
def e52_3 (k t0 t1 h) := kN k [(p0, t0), (p1, t1)] h
def S52_3 (D : CallD) (m : Nat) (t0 t1 : AV) (h : HP) : Res2 :=
 cal D 51 [t1, (vI (Int.ofNat 56))] h fun t10 h4 =>
 S52_1 D m t0 (Int.ofNat 0) (Int.ofNat 72057594037927936) t10 h4
def S52 : SFn := fun D m args h u => nou u <| popV args fun t0 args => popV args fun t1 args => endA args (S52_3 D m t0 t1 h)
theorem T52_0 (hE : FX x52 D m E) : S52_0 D m = e52_0 (E c52_0 []) := by unfold S52_0; rw [hE c52_0]; kernel_rfl
theorem T52_2 (hE : FX x52 D m E) (G1) : S52_2 D m (e52_1 G1) = e52_2 (E c52_2 [.blk 1, .lp v52_1 G1, .blk 0, .sj v52_0 c52_0]) := by unfold S52_2; rw [hE c52_2]; kernel_rfl
theorem T52_1b (hE : FX x52 D m E) (G1) : S52_1b D m (e52_1 G1) = e52_1 (E c52_1b [.lp v52_1 G1, .blk 0, .sj v52_0 c52_0]) := by unfold S52_1b; rw [T52_2 hE G1, T52_0 hE, hE c52_1b]; kernel_rfl
theorem T52_1 (hE : FX x52 D m E) : S52_1 D m = e52_1 (nrec (fun _ => none) (fun _ G1 st => E c52_1b [.lp v52_1 G1, .blk 0, .sj v52_0 c52_0] st) m) :=
  nrec_emb e52_1 (fun _ _ _ _ _ => none) (fun g => S52_1b D m g) (fun G1 st => E c52_1b [.lp v52_1 G1, .blk 0, .sj v52_0 c52_0] st) rfl (fun g => T52_1b hE g) m
theorem T52_3 (hE : FX x52 D m E) : S52_3 D m = e52_3 (E c52_e []) := by unfold S52_3; rw [T52_1 hE, hE c52_e]; kernel_rfl
theorem X52 : XTie S52 x52 := X_of fun D m E hE args h u => by unfold S52; rw [T52_3 hE]; kernel_rfl
/- 53 -/
def v53_1 : List Pos := []
def c53_1 : XC := (.sO [.mv p4 (ci 0) tI] (.s .ret))
def v53_2 : List Pos := [p0, p1, p6]
def c53_2b : XC := (.seq (.seq (.oX [.mv p19 q6 tI, .bn p20 .geq q19 (ci 0) .b]) (.cond q20 .skip (.exit 0))) (.seq (.block 1 (.seq (.oX [.mv p23 q0 .v, .mv p24 q6 tI, .cl p25 72 [q23, q24] tI, .mv p26 q1 .v, .mv p27 q6 tI, .cl p28 72 [q26, q27] tI, .mv p7 q25 tI, .mv p8 q28 tI]) (.seq (.seq (.oX [.mv p29 q7 tI, .mv p30 q8 tI, .bn p31 .lss q29 q30 .b]) (.cond q31 (.seq (.oX [.mv p4 (.c (.int .i64 (.negSucc 0))) tI]) .ret) .skip)) (.seq (.oX [.mv p32 q7 tI, .mv p33 q8 tI, .bn p34 .gtr q32 q33 .b]) (.cond q34 (.seq (.oX [.mv p4 (ci 1) tI]) .ret) .skip))))) (.s (.oX [.mv p21 q6 tI, .bn p22 .sub q21 (ci 1) tI, .mv p6 q22 tI]))))
def v53_0 : List Pos := [p0, p1, p5]
def c53_0 : XC := (.sj v53_1 (.sO [.mv p17 q5 tI, .bn p18 .sub q17 (ci 1) tI, .mv p6 q18 tI] (.block 0 (.loop v53_2 c53_2b))) c53_1)
def c53_e : XC := (.sO [.mv p4 (ci 0) tI] (.sO [.mv p9 q0 .v, .P p10 (.lenl q9) tI, .mv p5 q10 tI] (.sj v53_0 (.sO [.mv p11 q1 .v, .P p12 (.lenl q11) tI, .mv p13 q5 tI, .bn p14 .gtr q12 q13 .b] (.cond q14 (.s (.oX [.mv p15 q1 .v, .P p16 (.lenl q15) tI, .mv p5 q16 tI])) (.s .skip))) c53_0)))
def x53 : XFn := ⟨[.v, .v], false, [(.tmp p4)], c53_e⟩
def e53_1 (k h) := kN k [] h
def S53_1 (D : CallD) (m : Nat) (h : HP) : Res2 :=
 some (.ret (vI (Int.ofNat 0)) h, .no)
def e53_2 (k t0 t1 t6 h) := kN k [(p0, t0), (p1, t1), (p6, (vI t6))] h
def S53_2b (D : CallD) (m : Nat) (g2 : AV → AV → Int → HP → Res2) (t0 t1 : AV) (t6 : Int) (h : HP) : Res2 :=
 let t20 := leQ (Int.ofNat 0) t6
 br t20 (
 cal D 72 [t0, (vI t6)] h fun t25 h4 =>
 asI .i64 t25 fun t25a =>
 cal D 72 [t1, (vI t6)] h4 fun t28 h5 =>
 asI .i64 t28 fun t28a =>
 let t31 := ltQ t25a t28a
 br t31 (
 some (.ret (vI (Int.negSucc 0)) h5, .no)) (
 let t34 := ltQ t28a t25a
 br t34 (
 some (.ret (vI (Int.ofNat 1)) h5, .no)) (
 let t22 := wrQ .i64 (t6 - (Int.ofNat 1))
 g2 t0 t1 t22 h5))) (
 S53_1 D m h)
def S53_2 (D : CallD) (m : Nat) : AV → AV → Int → HP → Res2 := nrec (fun _ _ _ _ => none) (fun _ g => S53_2b D m g) m
def e53_0 (k t0 t1 t5 h) := kN k [(p0, t0), (p1, t1), (p5, (vI t5))] h
def S53_0 (D : CallD) (m : Nat) (t0 t1 : AV) (t5 : Int) (h : HP) : Res2 :=
 let t18 := wrQ .i64 (t5 - (Int.ofNat 1))
 S53_2 D m t0 t1 t18 h
def e53_3 (k t0 t1 h) := kN k [(p0, t0), (p1, t1)] h
def S53_3 (D : CallD) (m : Nat) (t0 t1 : AV) (h : HP) : Res2 :=
 lenC t0 fun vt10 => asI .i64 vt10 fun t10 =>
 lenC t1 fun vt12 => asI .i64 vt12 fun t12 =>
 let t14 := ltQ t10 t12
 br t14 (
 lenC t1 fun vt16 => asI .i64 vt16 fun t16 =>
 S53_0 D m t0 t1 t16 h) (
 S53_0 D m t0 t1 t10 h)
def S53 : SFn := fun D m args h u => nou u <| popV args fun t0 args => popV args fun t1 args => endA args (S53_3 D m t0 t1 h)
theorem T53_1 (hE : FX x53 D m E) : S53_1 D m = e53_1 (E c53_1 []) := by unfold S53_1; rw [hE c53_1]; kernel_rfl
theorem T53_2b (hE : FX x53 D m E) (G2) : S53_2b D m (e53_2 G2) = e53_2 (E c53_2b [.lp v53_2 G2, .blk 0, .sj v53_1 c53_1]) := by unfold S53_2b; rw [T53_1 hE, hE c53_2b]; kernel_rfl
theorem T53_2 (hE : FX x53 D m E) : S53_2 D m = e53_2 (nrec (fun _ => none) (fun _ G2 st => E c53_2b [.lp v53_2 G2, .blk 0, .sj v53_1 c53_1] st) m) :=
  nrec_emb e53_2 (fun _ _ _ _ => none) (fun g => S53_2b D m g) (fun G2 st => E c53_2b [.lp v53_2 G2, .blk 0, .sj v53_1 c53_1] st) rfl (fun g => T53_2b hE g) m
theorem T53_0 (hE : FX x53 D m E) : S53_0 D m = e53_0 (E c53_0 []) := by unfold S53_0; rw [T53_2 hE, hE c53_0]; kernel_rfl
theorem T53_3 (hE : FX x53 D m E) : S53_3 D m = e53_3 (E c53_e []) := by unfold S53_3; rw [T53_0 hE, hE c53_e]; kernel_rfl
theorem X53 : XTie S53 x53 := X_of fun D m E hE args h u => by unfold S53; rw [T53_3 hE]; kernel_rfl
/- 54 -/
def v54_4 : List Pos := [p13]
def c54_4 : XC := (.sO [.mv p171 q13 (.i .u64), .mv p6 q171 (.i .u64), .mv p7 (.c .nili) .v] (.s .ret))
def c54_6 : XC := (.cond q169 (.sO [.P p170 (.mkif 94 (ci 2)) .v, .mv p6 (.c (.int .u64 (.ofNat 0))) (.i .u64), .mv p7 q170 .v] (.s .ret)) (.s .skip))
def l54_5 : XL := (XL.of [])
def v54_3 : List Pos := [p9, p12, p13]
def c54_3 : XC := (.sj v54_4 (.opq false (XL.pre [.mv p164 q12 .b, .mv p165 q164 .b, .sp p165, .G p165 true p166 (.mov q9) .s, .o ⟨(some p167), (.call (.fn 74) [q166]), (some (p165, true)), []⟩ .b, .G p165 true p168 (.un .not q167) .b, .P p169 (.pick q165 q168 (cb false)) .b, .jn p165 [p13, p169]] l54_5) c54_6) c54_4)
def v54_8 : List Pos := [p1, p8, p9, p10, p11, p12, p13, p99, p100, p101]
def c54_8 : XC := (.s (.oX [.bn p163 .add q101 (ci 1) tI, .mv p101 q163 tI]))
def v54_9 : List Pos := [p1, p8, p9, p10, p11, p12, p13, p16, p99, p100, p101]
def c54_9 : XC := (.seq (.seq (.oX [.mv p134 q16 tC, .mv p135 q1 tI, .P p136 (.conv (.ii .u8) q135) tC, .bn p137 .geq q134 q136 .b]) (.cond q137 (.seq (.oX [.P p138 (.mkif 94 (ci 2)) .v, .mv p6 (.c (.int .u64 (.ofNat 0))) (.i .u64), .mv p7 q138 .v]) .ret) .skip)) (.seq (.seq (.oX [.mv p139 q13 (.i .u64), .mv p140 q10 (.i .u64), .bn p141 .geq q139 q140 .b]) (.cond q141 (.seq (.oX [.mv p142 q11 (.i .u64), .P p143 (.mkif 94 (ci 1)) .v, .mv p6 q142 (.i .u64), .mv p7 q143 .v]) .ret) .skip)) (.sO [.mv p144 q13 (.i .u64), .mv p145 q1 tI, .P p146 (.conv (.ii .u64) q145) (.i .u64), .bn p147 .mul q144 q146 (.i .u64), .mv p13 q147 (.i .u64)] (.sO [.mv p148 q13 (.i .u64), .mv p149 q16 tC, .P p150 (.conv (.ii .u64) q149) (.i .u64), .bn p151 .add q148 q150 (.i .u64), .mv p17 q151 (.i .u64)] (.seq (.seq (.oX [.mv p152 q17 (.i .u64), .mv p153 q13 (.i .u64), .bn p154 .lss q152 q153 .b, .mv p155 q154 .b, .ge p155 (XL.of [.G p155 false p156 (.mov q17) (.i .u64), .G p155 false p157 (.mov q11) (.i .u64), .G p155 false p158 (.bin .gtr q156 q157) .b, .P p159 (.pick q155 (cb true) q158) .b]) p159 .b]) (.cond q159 (.seq (.oX [.mv p160 q11 (.i .u64), .P p161 (.mkif 94 (ci 1)) .v, .mv p6 q160 (.i .u64), .mv p7 q161 .v]) .ret) .skip)) (.s (.oX [.mv p162 q17 (.i .u64), .mv p13 q162 (.i .u64)])))))))
def c54_11 : XC := (.cond q121 (.s (.oX [.mv p130 q15 tC, .cl p131 73 [q130] tC, .bn p132 .sub q131 (.c (.int .u8 (.ofNat 97))) tC, .bn p133 .add q132 (.c (.int .u8 (.ofNat 10))) tC, .mv p16 q133 tC])) (.sO [.P p105 (.mkif 94 (ci 2)) .v, .mv p6 (.c (.int .u64 (.ofNat 0))) (.i .u64), .mv p7 q105 .v] (.s .ret)))
def l54_10 : XL := (XL.of [.mv p121 q129 .b])
def v54_7 : List Pos := [p1, p8, p9, p10, p11, p12, p13, p99, p100, p101]
def c54_7b : XC := (.sO [.bn p102 .lss q101 q100 .b] (.seq (.cond q102 .skip (.exit 3)) (.sj v54_8 (.block 4 (.sO [.P p103 (.iaddr (.sl 1) q99 q101) .v, .ld p104 q103 tC, .mv p15 q104 tC] (.sO [.mv p16 (.c (.int .u8 (.ofNat 0))) tC] (.sj v54_9 (.block 5 (.sO [.mv p107 q15 tC, .bn p108 .eql q107 (.c (.int .u8 (.ofNat 95))) .b, .mv p109 q108 .b, .ge p109 (XL.of [.G p109 true p110 (.mov q8) .b, .P p111 (.pick q109 q110 (cb false)) .b]) p111 .b, .mv p106 q111 .b] (.cond q106 (.sO [.mv p12 (cb true) .b] (.s (.exit 4))) (.sO [.mv p113 q15 tC, .bn p114 .leq (.c (.int .u8 (.ofNat 48))) q113 .b, .mv p115 q114 .b, .ge p115 (XL.of [.G p115 true p116 (.mov q15) tC, .G p115 true p117 (.bin .leq q116 (.c (.int .u8 (.ofNat 57)))) .b, .P p118 (.pick q115 q117 (cb false)) .b]) p118 .b, .mv p112 q118 .b] (.cond q112 (.s (.oX [.mv p119 q15 tC, .bn p120 .sub q119 (.c (.int .u8 (.ofNat 48))) tC, .mv p16 q120 tC])) (.opq false (XL.pre [.mv p122 q15 tC, .cl p123 73 [q122] tC, .bn p124 .leq (.c (.int .u8 (.ofNat 97))) q123 .b, .mv p125 q124 .b, .sp p125, .G p125 true p126 (.mov q15) tC, .o ⟨(some p127), (.call (.fn 73) [q126]), (some (p125, true)), []⟩ tC, .G p125 true p128 (.bin .leq q127 (.c (.int .u8 (.ofNat 122)))) .b, .P p129 (.pick q125 q128 (cb false)) .b, .jn p125 [p1, p8, p9, p10, p11, p12, p13, p15, p99, p100, p101, p129]] l54_10) c54_11)))))) c54_9)))) c54_8)))
def v54_2 : List Pos := [p0, p1, p2, p8, p9, p10]
def c54_2 : XC := (.sO [.mv p94 q2 tI, .P p95 (.conv (.ii .u64) q94) (.i .u64), .bn p96 .shl (.c (.int .u64 (.ofNat 1))) q95 (.i .u64), .bn p97 .sub q96 (.c (.int .u64 (.ofNat 1))) (.i .u64), .mv p11 q97 (.i .u64)] (.sO [.mv p12 (cb false) .b] (.sO [.mv p13 (.c (.int .u64 (.ofNat 0))) (.i .u64)] (.sj v54_3 (.sO [.mv p98 q0 .s, .o ⟨(some p99), (.e (.sb q98)), none, []⟩ .v, .P p100 (.lenl q99) tI, .mv p101 (ci 0) tI] (.block 3 (.loop v54_7 c54_7b))) c54_3))))
def v54_1 : List Pos := [p0, p1, p2, p8, p9]
def c54_1 : XC := (.sO [.mv p10 (.c (.int .u64 (.ofNat 0))) (.i .u64)] (.sj v54_2 (.sO [.mv p85 q1 tI] (.block 2 (.sO [.bn p91 .eql q85 (ci 10) .b, .mv p90 q91 .b] (.cond q90 (.s (.oX [.mv p10 (.c (.int .u64 (.ofNat 1844674407370955162))) (.i .u64)])) (.sO [.bn p93 .eql q85 (ci 16) .b, .mv p92 q93 .b] (.cond q92 (.s (.oX [.mv p10 (.c (.int .u64 (.ofNat 1152921504606846976))) (.i .u64)])) (.s (.oX [.mv p86 q1 tI, .P p87 (.conv (.ii .u64) q86) (.i .u64), .bn p88 .quo (.c (.int .u64 (.ofNat 18446744073709551615))) q87 (.i .u64), .bn p89 .add q88 (.c (.int .u64 (.ofNat 1))) (.i .u64), .mv p10 q89 (.i .u64)])))))))) c54_2))
def v54_0 : List Pos := [p0, p1, p2, p8, p9]
def c54_0 : XC := (.sj v54_1 (.sO [.mv p76 q2 tI, .bn p77 .eql q76 (ci 0) .b] (.cond q77 (.s (.oX [.mv p2 (ci 64) tI])) (.sO [.mv p78 q2 tI, .bn p79 .lss q78 (ci 0) .b, .mv p80 q79 .b, .ge p80 (XL.of [.G p80 false p81 (.mov q2) tI, .G p80 false p82 (.bin .gtr q81 (ci 64)) .b, .P p83 (.pick q80 (cb true) q82) .b]) p83 .b] (.cond q83 (.sO [.P p84 (.mkif 94 (ci 4)) .v, .mv p6 (.c (.int .u64 (.ofNat 0))) (.i .u64), .mv p7 q84 .v] (.s .ret)) (.s .skip))))) c54_1)
def c54_15 : XC := (.cond q64 (.sO [.mv p1 (ci 16) tI] (.s (.oX [.mv p74 q0 .s, .P p75 (.slice .str q74 (some (ci 2)) none none) .s, .mv p0 q75 .s]))) (.sO [.mv p1 (ci 8) tI] (.s (.oX [.mv p38 q0 .s, .P p39 (.slice .str q38 (some (ci 1)) none none) .s, .mv p0 q39 .s]))))
def l54_14 : XL := (XL.of [.mv p64 q73 .b])
def c54_16 : XC := (.cond q52 (.sO [.mv p1 (ci 8) tI] (.s (.oX [.mv p62 q0 .s, .P p63 (.slice .str q62 (some (ci 2)) none none) .s, .mv p0 q63 .s]))) (.opq false (XL.pre [.mv p65 q0 .s, .P p66 (.lens q65) tI, .bn p67 .geq q66 (ci 3) .b, .mv p68 q67 .b, .sp p68, .G p68 true p69 (.mov q0) .s, .G p68 true p70 (.idxs q69 (ci 1)) tC, .o ⟨(some p71), (.call (.fn 73) [q70]), (some (p68, true)), []⟩ tC, .G p68 true p72 (.bin .eql q71 (.c (.int .u8 (.ofNat 120)))) .b, .P p73 (.pick q68 q72 (cb false)) .b, .jn p68 [p0, p2, p8, p9, p73]] l54_14) c54_15))
def l54_13 : XL := (XL.of [.mv p52 q61 .b])
def c54_17 : XC := (.cond q40 (.sO [.mv p1 (ci 2) tI] (.s (.oX [.mv p50 q0 .s, .P p51 (.slice .str q50 (some (ci 2)) none none) .s, .mv p0 q51 .s]))) (.opq false (XL.pre [.mv p53 q0 .s, .P p54 (.lens q53) tI, .bn p55 .geq q54 (ci 3) .b, .mv p56 q55 .b, .sp p56, .G p56 true p57 (.mov q0) .s, .G p56 true p58 (.idxs q57 (ci 1)) tC, .o ⟨(some p59), (.call (.fn 73) [q58]), (some (p56, true)), []⟩ tC, .G p56 true p60 (.bin .eql q59 (.c (.int .u8 (.ofNat 111)))) .b, .P p61 (.pick q56 q60 (cb false)) .b, .jn p56 [p0, p2, p8, p9, p61]] l54_13) c54_16))
def l54_12 : XL := (XL.of [.mv p40 q49 .b])
def c54_e : XC := (.sO [.mv p6 (.c (.int .u64 (.ofNat 0))) (.i .u64), .mv p7 (.c .nili) .v] (.seq (.seq (.oX [.mv p18 q0 .s, .bn p19 .eql q18 (.c (.str [])) .b]) (.cond q19 (.seq (.oX [.P p20 (.mkif 94 (ci 2)) .v, .mv p6 (.c (.int .u64 (.ofNat 0))) (.i .u64), .mv p7 q20 .v]) .ret) .skip)) (.sO [.mv p21 q1 tI, .bn p22 .eql q21 (ci 0) .b, .mv p8 q22 .b] (.sO [.mv p23 q0 .s, .mv p9 q23 .s] (.sj v54_0 (.block 0 (.sO [.mv p26 q1 tI, .bn p27 .leq (ci 2) q26 .b, .mv p28 q27 .b, .ge p28 (XL.of [.G p28 true p29 (.mov q1) tI, .G p28 true p30 (.bin .leq q29 (ci 36)) .b, .P p31 (.pick q28 q30 (cb false)) .b]) p31 .b, .mv p25 q31 .b] (.cond q25 (.s .skip) (.sO [.mv p33 q1 tI, .bn p34 .eql q33 (ci 0) .b, .mv p32 q34 .b] (.cond q32 (.sO [.mv p1 (ci 10) tI] (.sO [.mv p35 q0 .s, .P p36 (.idxs q35 (ci 0)) tC, .bn p37 .eql q36 (.c (.int .u8 (.ofNat 48))) .b] (.cond q37 (.block 1 (.opq false (XL.pre [.mv p41 q0 .s, .P p42 (.lens q41) tI, .bn p43 .geq q42 (ci 3) .b, .mv p44 q43 .b, .sp p44, .G p44 true p45 (.mov q0) .s, .G p44 true p46 (.idxs q45 (ci 1)) tC, .o ⟨(some p47), (.call (.fn 73) [q46]), (some (p44, true)), []⟩ tC, .G p44 true p48 (.bin .eql q47 (.c (.int .u8 (.ofNat 98)))) .b, .P p49 (.pick q44 q48 (cb false)) .b, .jn p44 [p0, p2, p8, p9, p49]] l54_12) c54_17)) (.s .skip)))) (.sO [.P p24 (.mkif 94 (ci 3)) .v, .mv p6 (.c (.int .u64 (.ofNat 0))) (.i .u64), .mv p7 q24 .v] (.s .ret))))))) c54_0)))))
def x54 : XFn := ⟨[.s, tI, tI], false, [(.tmp p6), (.tmp p7)], c54_e⟩
def e54_4 (k t13 h) := kN k [(p13, (AV.int .u64 t13))] h
def S54_4 (D : CallD) (m : Nat) (t13 : Int) (h : HP) : Res2 :=
 some (.ret (.tup [(AV.int .u64 t13), (.nili : AV)]) h, .no)
def e54_5 (k t13 t169 h) := kN k [(p13, (AV.int .u64 t13)), (p169, (vB t169))] h
def S54_5 (D : CallD) (m : Nat) (t13 : Int) (t169 : Bool) (h : HP) : Res2 :=
 br t169 (
 let t170 := (AV.iface 94 (vI (Int.ofNat 2)))
 some (.ret (.tup [(AV.int .u64 (Int.ofNat 0)), t170]) h, .no)) (
 S54_4 D m t13 h)
def e54_3 (k t9 t12 t13 h) := kN k [(p9, (vS t9)), (p12, (vB t12)), (p13, (AV.int .u64 t13))] h
def S54_3 (D : CallD) (m : Nat) (t9 : LN) (t12 : Bool) (t13 : Int) (h : HP) : Res2 :=
 br t12 (
 cal D 74 [(vS t9)] h fun t167 h19 =>
 asB t167 fun t167a =>
 let t168 := !t167a
 S54_5 D m t13 t168 h19) (
 S54_5 D m t13 false h)
def e54_8 (k t1 t8 t9 t10 t11 t12 t13 t99 t100 t101 h) := kN k [(p1, (vI t1)), (p8, (vB t8)), (p9, (vS t9)), (p10, (AV.int .u64 t10)), (p11, (AV.int .u64 t11)), (p12, (vB t12)), (p13, (AV.int .u64 t13)), (p99, t99), (p100, (vI t100)), (p101, (vI t101))] h
def S54_8 (D : CallD) (m : Nat) (g7 : Int → Bool → LN → Int → Int → Bool → Int → AV → Int → Int → HP → Res2) (t1 : Int) (t8 : Bool) (t9 : LN) (t10 t11 : Int) (t12 : Bool) (t13 : Int) (t99 : AV) (t100 t101 : Int) (h : HP) : Res2 :=
 let t163 := wrQ .i64 (addQ t101 (Int.ofNat 1))
 g7 t1 t8 t9 t10 t11 t12 t13 t99 t100 t163 h
def e54_9 (k t1 t8 t9 t10 t11 t12 t13 t16 t99 t100 t101 h) := kN k [(p1, (vI t1)), (p8, (vB t8)), (p9, (vS t9)), (p10, (AV.int .u64 t10)), (p11, (AV.int .u64 t11)), (p12, (vB t12)), (p13, (AV.int .u64 t13)), (p16, (vC t16)), (p99, t99), (p100, (vI t100)), (p101, (vI t101))] h
def S54_9 (D : CallD) (m : Nat) (g7 : Int → Bool → LN → Int → Int → Bool → Int → AV → Int → Int → HP → Res2) (t1 : Int) (t8 : Bool) (t9 : LN) (t10 t11 : Int) (t12 : Bool) (t13 t16 : Int) (t99 : AV) (t100 t101 : Int) (h : HP) : Res2 :=
 let t136 := wrapF .u8 t1
 let t137 := leQ t136 t16
 br t137 (
 let t138 := (AV.iface 94 (vI (Int.ofNat 2)))
 some (.ret (.tup [(AV.int .u64 (Int.ofNat 0)), t138]) h, .no)) (
 let t141 := leQ t10 t13
 br t141 (
 let t143 := (AV.iface 94 (vI (Int.ofNat 1)))
 some (.ret (.tup [(AV.int .u64 t11), t143]) h, .no)) (
 let t146 := wrapF .u64 t1
 let t147 := wrQ .u64 (t13 * t146)
 let t150 := wrapF .u64 t16
 let t151 := wrQ .u64 (addQ t147 t150)
 let t154 := ltQ t151 t147
 obB (brV t154 (
 some (vB true)) (
 let t158 := ltQ t11 t151
 some (vB t158))) fun t159 =>
 br t159 (
 let t161 := (AV.iface 94 (vI (Int.ofNat 1)))
 some (.ret (.tup [(AV.int .u64 t11), t161]) h, .no)) (
 S54_8 D m g7 t1 t8 t9 t10 t11 t12 t151 t99 t100 t101 h)))
def e54_10 (k t1 t8 t9 t10 t11 t12 t13 t15 t99 t100 t101 t129 h) := kN k [(p1, (vI t1)), (p8, (vB t8)), (p9, (vS t9)), (p10, (AV.int .u64 t10)), (p11, (AV.int .u64 t11)), (p12, (vB t12)), (p13, (AV.int .u64 t13)), (p15, (vC t15)), (p99, t99), (p100, (vI t100)), (p101, (vI t101)), (p129, (vB t129))] h
def S54_10 (D : CallD) (m : Nat) (g7 : Int → Bool → LN → Int → Int → Bool → Int → AV → Int → Int → HP → Res2) (t1 : Int) (t8 : Bool) (t9 : LN) (t10 t11 : Int) (t12 : Bool) (t13 t15 : Int) (t99 : AV) (t100 t101 : Int) (t129 : Bool) (h : HP) : Res2 :=
 br t129 (
 cal D 73 [(vC t15)] h fun t131 h23 =>
 asI .u8 t131 fun t131a =>
 let t132 := wrQ .u8 (t131a - (Int.ofNat 97))
 let t133 := wrQ .u8 (addQ t132 (Int.ofNat 10))
 S54_9 D m g7 t1 t8 t9 t10 t11 t12 t13 t133 t99 t100 t101 h23) (
 let t105 := (AV.iface 94 (vI (Int.ofNat 2)))
 some (.ret (.tup [(AV.int .u64 (Int.ofNat 0)), t105]) h, .no))
def e54_7 (k t1 t8 t9 t10 t11 t12 t13 t99 t100 t101 h) := kN k [(p1, (vI t1)), (p8, (vB t8)), (p9, (vS t9)), (p10, (AV.int .u64 t10)), (p11, (AV.int .u64 t11)), (p12, (vB t12)), (p13, (AV.int .u64 t13)), (p99, t99), (p100, (vI t100)), (p101, (vI t101))] h
def S54_7b (D : CallD) (m : Nat) (g7 : Int → Bool → LN → Int → Int → Bool → Int → AV → Int → Int → HP → Res2) (t1 : Int) (t8 : Bool) (t9 : LN) (t10 t11 : Int) (t12 : Bool) (t13 : Int) (t99 : AV) (t100 t101 : Int) (h : HP) : Res2 :=
 let t102 := ltQ t101 t100
 br t102 (
 iasC 1 t99 (vI t101) fun t103 =>
 ldC t103 h fun t104 =>
 let t108 := eqQ t104 (Int.ofNat 95)
 obB (brV t108 (
 some (vB t8)) (
 some (vB false))) fun t111 =>
 br t111 (
 S54_8 D m g7 t1 t8 t9 t10 t11 true t13 t99 t100 t101 h) (
 let t114 := leQ (Int.ofNat 48) t104
 obB (brV t114 (
 let t117 := leQ t104 (Int.ofNat 57)
 some (vB t117)) (
 some (vB false))) fun t118 =>
 br t118 (
 let t120 := wrQ .u8 (t104 - (Int.ofNat 48))
 S54_9 D m g7 t1 t8 t9 t10 t11 t12 t13 t120 t99 t100 t101 h) (
 cal D 73 [(vC t104)] h fun t123 h21 =>
 asI .u8 t123 fun t123a =>
 let t124 := leQ (Int.ofNat 97) t123a
 br t124 (
 cal D 73 [(vC t104)] h21 fun t127 h22 =>
 asI .u8 t127 fun t127a =>
 let t128 := leQ t127a (Int.ofNat 122)
 S54_10 D m g7 t1 t8 t9 t10 t11 t12 t13 t104 t99 t100 t101 t128 h22) (
 S54_10 D m g7 t1 t8 t9 t10 t11 t12 t13 t104 t99 t100 t101 false h21)))) (
 S54_3 D m t9 t12 t13 h)
def S54_7 (D : CallD) (m : Nat) : Int → Bool → LN → Int → Int → Bool → Int → AV → Int → Int → HP → Res2 := nrec (fun _ _ _ _ _ _ _ _ _ _ _ => none) (fun _ g => S54_7b D m g) m
def e54_2 (k t0 t1 t2 t8 t9 t10 h) := kN k [(p0, (vS t0)), (p1, (vI t1)), (p2, (vI t2)), (p8, (vB t8)), (p9, (vS t9)), (p10, (AV.int .u64 t10))] h
def S54_2 (D : CallD) (m : Nat) (t0 : LN) (t1 t2 : Int) (t8 : Bool) (t9 : LN) (t10 : Int) (h : HP) : Res2 :=
 let t95 := wrapF .u64 t2
 obI .u64 (shiftF .shl .u64 (Int.ofNat 1) t95) fun t96 =>
 let t97 := wrQ .u64 (t96 - (Int.ofNat 1))
 eff (.sb (.c (vS t0))) h fun t99 h20 =>
 lenC t99 fun vt100 => asI .i64 vt100 fun t100 =>
 S54_7 D m t1 t8 t9 t10 t97 false (Int.ofNat 0) t99 t100 (Int.ofNat 0) h20
def e54_1 (k t0 t1 t2 t8 t9 h) := kN k [(p0, (vS t0)), (p1, (vI t1)), (p2, (vI t2)), (p8, (vB t8)), (p9, (vS t9))] h
def S54_1 (D : CallD) (m : Nat) (t0 : LN) (t1 t2 : Int) (t8 : Bool) (t9 : LN) (h : HP) : Res2 :=
 let t91 := eqQ t1 (Int.ofNat 10)
 br t91 (
 S54_2 D m t0 t1 t2 t8 t9 (Int.ofNat 1844674407370955162) h) (
 let t93 := eqQ t1 (Int.ofNat 16)
 br t93 (
 S54_2 D m t0 t1 t2 t8 t9 (Int.ofNat 1152921504606846976) h) (
 let t87 := wrapF .u64 t1
 obI .u64 (intBin .quo .u64 (Int.ofNat 18446744073709551615) t87) fun t88 =>
 let t89 := wrQ .u64 (addQ t88 (Int.ofNat 1))
 S54_2 D m t0 t1 t2 t8 t9 t89 h))
def e54_0 (k t0 t1 t2 t8 t9 h) := kN k [(p0, (vS t0)), (p1, (vI t1)), (p2, (vI t2)), (p8, (vB t8)), (p9, (vS t9))] h
def S54_0 (D : CallD) (m : Nat) (t0 : LN) (t1 t2 : Int) (t8 : Bool) (t9 : LN) (h : HP) : Res2 :=
 let t77 := eqQ t2 (Int.ofNat 0)
 br t77 (
 S54_1 D m t0 t1 (Int.ofNat 64) t8 t9 h) (
 let t79 := ltQ t2 (Int.ofNat 0)
 obB (brV t79 (
 some (vB true)) (
 let t82 := ltQ (Int.ofNat 64) t2
 some (vB t82))) fun t83 =>
 br t83 (
 let t84 := (AV.iface 94 (vI (Int.ofNat 4)))
 some (.ret (.tup [(AV.int .u64 (Int.ofNat 0)), t84]) h, .no)) (
 S54_1 D m t0 t1 t2 t8 t9 h))
def e54_14 (k t0 t2 t8 t9 t73 h) := kN k [(p0, (vS t0)), (p2, (vI t2)), (p8, (vB t8)), (p9, (vS t9)), (p73, (vB t73))] h
def S54_14 (D : CallD) (m : Nat) (t0 : LN) (t2 : Int) (t8 : Bool) (t9 : LN) (t73 : Bool) (h : HP) : Res2 :=
 br t73 (
 slC (vS t0) (some (vI (Int.ofNat 2))) none fun vt75 => asS vt75 fun t75 =>
 S54_0 D m t75 (Int.ofNat 16) t2 t8 t9 h) (
 slC (vS t0) (some (vI (Int.ofNat 1))) none fun vt39 => asS vt39 fun t39 =>
 S54_0 D m t39 (Int.ofNat 8) t2 t8 t9 h)
def e54_13 (k t0 t2 t8 t9 t61 h) := kN k [(p0, (vS t0)), (p2, (vI t2)), (p8, (vB t8)), (p9, (vS t9)), (p61, (vB t61))] h
def S54_13 (D : CallD) (m : Nat) (t0 : LN) (t2 : Int) (t8 : Bool) (t9 : LN) (t61 : Bool) (h : HP) : Res2 :=
 br t61 (
 slC (vS t0) (some (vI (Int.ofNat 2))) none fun vt63 => asS vt63 fun t63 =>
 S54_0 D m t63 (Int.ofNat 8) t2 t8 t9 h) (
 let t66 := Int.ofNat (lenL t0)
 let t67 := leQ (Int.ofNat 3) t66
 br t67 (
 ixC (vS t0) (vI (Int.ofNat 1)) fun vt70 => asI .u8 vt70 fun t70 =>
 cal D 73 [(vC t70)] h fun t71 h26 =>
 asI .u8 t71 fun t71a =>
 let t72 := eqQ t71a (Int.ofNat 120)
 S54_14 D m t0 t2 t8 t9 t72 h26) (
 S54_14 D m t0 t2 t8 t9 false h))
def e54_12 (k t0 t2 t8 t9 t49 h) := kN k [(p0, (vS t0)), (p2, (vI t2)), (p8, (vB t8)), (p9, (vS t9)), (p49, (vB t49))] h
def S54_12 (D : CallD) (m : Nat) (t0 : LN) (t2 : Int) (t8 : Bool) (t9 : LN) (t49 : Bool) (h : HP) : Res2 :=
 br t49 (
 slC (vS t0) (some (vI (Int.ofNat 2))) none fun vt51 => asS vt51 fun t51 =>
 S54_0 D m t51 (Int.ofNat 2) t2 t8 t9 h) (
 let t54 := Int.ofNat (lenL t0)
 let t55 := leQ (Int.ofNat 3) t54
 br t55 (
 ixC (vS t0) (vI (Int.ofNat 1)) fun vt58 => asI .u8 vt58 fun t58 =>
 cal D 73 [(vC t58)] h fun t59 h25 =>
 asI .u8 t59 fun t59a =>
 let t60 := eqQ t59a (Int.ofNat 111)
 S54_13 D m t0 t2 t8 t9 t60 h25) (
 S54_13 D m t0 t2 t8 t9 false h))
def e54_18 (k t0 t1 t2 h) := kN k [(p0, (vS t0)), (p1, (vI t1)), (p2, (vI t2))] h
def S54_18 (D : CallD) (m : Nat) (t0 : LN) (t1 t2 : Int) (h : HP) : Res2 :=
 let t19 := eqL t0 ([] : LN)
 br t19 (
 let t20 := (AV.iface 94 (vI (Int.ofNat 2)))
 some (.ret (.tup [(AV.int .u64 (Int.ofNat 0)), t20]) h, .no)) (
 let t22 := eqQ t1 (Int.ofNat 0)
 let t27 := leQ (Int.ofNat 2) t1
 obB (brV t27 (
 let t30 := leQ t1 (Int.ofNat 36)
 some (vB t30)) (
 some (vB false))) fun t31 =>
 br t31 (
 S54_0 D m t0 t1 t2 t22 t0 h) (
 let t34 := eqQ t1 (Int.ofNat 0)
 br t34 (
 ixC (vS t0) (vI (Int.ofNat 0)) fun vt36 => asI .u8 vt36 fun t36 =>
 let t37 := eqQ t36 (Int.ofNat 48)
 br t37 (
 let t42 := Int.ofNat (lenL t0)
 let t43 := leQ (Int.ofNat 3) t42
 br t43 (
 ixC (vS t0) (vI (Int.ofNat 1)) fun vt46 => asI .u8 vt46 fun t46 =>
 cal D 73 [(vC t46)] h fun t47 h24 =>
 asI .u8 t47 fun t47a =>
 let t48 := eqQ t47a (Int.ofNat 98)
 S54_12 D m t0 t2 t22 t0 t48 h24) (
 S54_12 D m t0 t2 t22 t0 false h)) (
 S54_0 D m t0 (Int.ofNat 10) t2 t22 t0 h)) (
 let t24 := (AV.iface 94 (vI (Int.ofNat 3)))
 some (.ret (.tup [(AV.int .u64 (Int.ofNat 0)), t24]) h, .no))))
def S54 : SFn := fun D m args h u => nou u <| popS args fun t0 args => popI .i64 args fun t1 args => popI .i64 args fun t2 args => endA args (S54_18 D m t0 t1 t2 h)
theorem T54_4 (hE : FX x54 D m E) : S54_4 D m = e54_4 (E c54_4 []) := by unfold S54_4; rw [hE c54_4]; kernel_rfl
theorem T54_5 (hE : FX x54 D m E) : S54_5 D m = e54_5 (E (.opq false l54_5 c54_6) [.sj v54_4 c54_4]) := by unfold S54_5; rw [T54_4 hE, hE (.opq false l54_5 c54_6)]; kernel_rfl
theorem T54_3 (hE : FX x54 D m E) : S54_3 D m = e54_3 (E c54_3 []) := by unfold S54_3; rw [T54_5 hE, hE c54_3]; kernel_rfl
theorem T54_8 (hE : FX x54 D m E) (G7) : S54_8 D m (e54_7 G7) = e54_8 (E c54_8 [.lp v54_7 G7, .blk 3, .sj v54_3 c54_3]) := by unfold S54_8; rw [hE c54_8]; kernel_rfl
theorem T54_9 (hE : FX x54 D m E) (G7) : S54_9 D m (e54_7 G7) = e54_9 (E c54_9 [.blk 4, .sj v54_8 c54_8, .lp v54_7 G7, .blk 3, .sj v54_3 c54_3]) := by unfold S54_9; rw [T54_8 hE G7, hE c54_9]; kernel_rfl
theorem T54_10 (hE : FX x54 D m E) (G7) : S54_10 D m (e54_7 G7) = e54_10 (E (.opq false l54_10 c54_11) [.blk 5, .sj v54_9 c54_9, .blk 4, .sj v54_8 c54_8, .lp v54_7 G7, .blk 3, .sj v54_3 c54_3]) := by unfold S54_10; rw [T54_9 hE G7, hE (.opq false l54_10 c54_11)]; kernel_rfl
theorem T54_7b (hE : FX x54 D m E) (G7) : S54_7b D m (e54_7 G7) = e54_7 (E c54_7b [.lp v54_7 G7, .blk 3, .sj v54_3 c54_3]) := by unfold S54_7b; rw [T54_8 hE G7, T54_9 hE G7, T54_10 hE G7, T54_3 hE, hE c54_7b]; kernel_rfl
theorem T54_7 (hE : FX x54 D m E) : S54_7 D m = e54_7 (nrec (fun _ => none) (fun _ G7 st => E c54_7b [.lp v54_7 G7, .blk 3, .sj v54_3 c54_3] st) m) :=
  nrec_emb e54_7 (fun _ _ _ _ _ _ _ _ _ _ _ => none) (fun g => S54_7b D m g) (fun G7 st => E c54_7b [.lp v54_7 G7, .blk 3, .sj v54_3 c54_3] st) rfl (fun g => T54_7b hE g) m
theorem T54_2 (hE : FX x54 D m E) : S54_2 D m = e54_2 (E c54_2 []) := by unfold S54_2; rw [T54_7 hE, hE c54_2]; kernel_rfl
theorem T54_1 (hE : FX x54 D m E) : S54_1 D m = e54_1 (E c54_1 []) := by unfold S54_1; rw [T54_2 hE, hE c54_1]; kernel_rfl
theorem T54_0 (hE : FX x54 D m E) : S54_0 D m = e54_0 (E c54_0 []) := by unfold S54_0; rw [T54_1 hE, hE c54_0]; kernel_rfl
theorem T54_14 (hE : FX x54 D m E) : S54_14 D m = e54_14 (E (.opq false l54_14 c54_15) [.blk 1, .blk 0, .sj v54_0 c54_0]) := by unfold S54_14; rw [T54_0 hE, hE (.opq false l54_14 c54_15)]; kernel_rfl
theorem T54_13 (hE : FX x54 D m E) : S54_13 D m = e54_13 (E (.opq false l54_13 c54_16) [.blk 1, .blk 0, .sj v54_0 c54_0]) := by unfold S54_13; rw [T54_0 hE, T54_14 hE, hE (.opq false l54_13 c54_16)]; kernel_rfl
theorem T54_12 (hE : FX x54 D m E) : S54_12 D m = e54_12 (E (.opq false l54_12 c54_17) [.blk 1, .blk 0, .sj v54_0 c54_0]) := by unfold S54_12; rw [T54_0 hE, T54_13 hE, hE (.opq false l54_12 c54_17)]; kernel_rfl
theorem T54_18 (hE : FX x54 D m E) : S54_18 D m = e54_18 (E c54_e []) := by unfold S54_18; rw [T54_0 hE, T54_12 hE, hE c54_e]; kernel_rfl
theorem X54 : XTie S54 x54 := X_of fun D m E hE args h u => by unfold S54; rw [T54_18 hE]; kernel_rfl
/- 56 -/
def c56_e : XC := (.sO [.mv p4 (.c (.str [])) .s] (.seq (.seq (.oX [.mv p7 q0 .s, .bn p8 .eql q7 (.c (.str [])) .b, .mv p9 q8 .b, .ge p9 (XL.of [.G p9 false p10 (.mov q1) .s, .G p9 false p11 (.bin .eql q10 (.c (.str []))) .b, .P p12 (.pick q9 (cb true) q11) .b]) p12 .b]) (.cond q12 (.seq (.oX [.mv p13 q0 .s, .mv p4 q13 .s]) .ret) .skip)) (.seq (.seq (.oX [.mv p14 q1 .s, .P p15 (.lens q14) tI, .bn p16 .eql q15 (ci 1) .b, .mv p17 q16 .b, .ge p17 (XL.of [.G p17 true p18 (.mov q1) .s, .G p17 true p19 (.idxs q18 (ci 0)) tC, .G p17 true p20 (.bin .lss q19 (.c (.int .u8 (.ofNat 128)))) .b, .P p21 (.pick q17 q20 (cb false)) .b]) p21 .b]) (.cond q21 (.seq (.oX [.mv p22 q0 .s, .mv p23 q1 .s, .P p24 (.idxs q23 (ci 0)) tC, .cl p25 79 [q22, q24] .s, .mv p4 q25 .s]) .ret) .skip)) (.seq (.seq (.oX [.mv p27 q1 .s, .cl p28 80 [q27] .v, .mv p26 q28 .v, .P p29 (.ext q26 0) .v, .P p30 (.ext q26 1) .b, .al p5 (.new [(.bool false), (.bool false), (.bool false), (.bool false), (.bool false), (.bool false), (.bool false), (.bool false), (.bool false), (.bool false), (.bool false), (.bool false), (.bool false), (.bool false), (.bool false), (.bool false), (.bool false), (.bool false), (.bool false), (.bool false), (.bool false), (.bool false), (.bool false), (.bool false), (.bool false), (.bool false), (.bool false), (.bool false), (.bool false), (.bool false), (.bool false), (.bool false), (.bool false), (.bool false), (.bool false), (.bool false), (.bool false), (.bool false), (.bool false), (.bool false), (.bool false), (.bool false), (.bool false), (.bool false), (.bool false), (.bool false), (.bool false), (.bool false), (.bool false), (.bool false), (.bool false), (.bool false), (.bool false), (.bool false), (.bool false), (.bool false), (.bool false), (.bool false), (.bool false), (.bool false), (.bool false), (.bool false), (.bool false), (.bool false), (.bool false), (.bool false), (.bool false), (.bool false), (.bool false), (.bool false), (.bool false), (.bool false), (.bool false), (.bool false), (.bool false), (.bool false), (.bool false), (.bool false), (.bool false), (.bool false), (.bool false), (.bool false), (.bool false), (.bool false), (.bool false), (.bool false), (.bool false), (.bool false), (.bool false), (.bool false), (.bool false), (.bool false), (.bool false), (.bool false), (.bool false), (.bool false), (.bool false), (.bool false), (.bool false), (.bool false), (.bool false), (.bool false), (.bool false), (.bool false), (.bool false), (.bool false), (.bool false), (.bool false), (.bool false), (.bool false), (.bool false), (.bool false), (.bool false), (.bool false), (.bool false), (.bool false), (.bool false), (.bool false), (.bool false), (.bool false), (.bool false), (.bool false), (.bool false), (.bool false), (.bool false), (.bool false), (.bool false), (.bool false), (.bool false), (.bool false), (.bool false), (.bool false), (.bool false), (.bool false), (.bool false), (.bool false), (.bool false), (.bool false), (.bool false), (.bool false), (.bool false), (.bool false), (.bool false), (.bool false), (.bool false), (.bool false), (.bool false), (.bool false), (.bool false), (.bool false), (.bool false), (.bool false), (.bool false), (.bool false), (.bool false), (.bool false), (.bool false), (.bool false), (.bool false), (.bool false), (.bool false), (.bool false), (.bool false), (.bool false), (.bool false), (.bool false), (.bool false), (.bool false), (.bool false), (.bool false), (.bool false), (.bool false), (.bool false), (.bool false), (.bool false), (.bool false), (.bool false), (.bool false), (.bool false), (.bool false), (.bool false), (.bool false), (.bool false), (.bool false), (.bool false), (.bool false), (.bool false), (.bool false), (.bool false), (.bool false), (.bool false), (.bool false), (.bool false), (.bool false), (.bool false), (.bool false), (.bool false), (.bool false), (.bool false), (.bool false), (.bool false), (.bool false), (.bool false), (.bool false), (.bool false), (.bool false), (.bool false), (.bool false), (.bool false), (.bool false), (.bool false), (.bool false), (.bool false), (.bool false), (.bool false), (.bool false), (.bool false), (.bool false), (.bool false), (.bool false), (.bool false), (.bool false), (.bool false), (.bool false), (.bool false), (.bool false), (.bool false), (.bool false), (.bool false), (.bool false), (.bool false), (.bool false), (.bool false), (.bool false), (.bool false), (.bool false), (.bool false), (.bool false), (.bool false), (.bool false), (.bool false), (.bool false), (.bool false), (.bool false), (.bool false), (.bool false), (.bool false), (.bool false), (.bool false), (.bool false), (.bool false), (.bool false), (.bool false), (.bool false), (.bool false), (.bool false)]), .ss 256 q5 q29, .mv p6 q30 .b]) (.seq (.oX [.mv p31 q6 .b]) (.cond q31 (.seq (.oX [.mv p32 q0 .s, .cl p33 81 [q32, q5] .s, .mv p4 q33 .s]) .ret) .skip))) (.sO [.mv p34 q0 .s, .mv p35 q1 .s, .cl p36 82 [q34, q35] .s, .mv p4 q36 .s] (.s .ret))))))
def x56 : XFn := ⟨[.s, .s], false, [(.tmp p4)], c56_e⟩
def e56_0 (k t0 t1 h) := kN k [(p0, (vS t0)), (p1, (vS t1))] h
def S56_0 (D : CallD) (m : Nat) (t0 t1 : LN) (h : HP) : Res2 :=
 let t8 := eqL t0 ([] : LN)
 obB (brV t8 (
 some (vB true)) (
 let t11 := eqL t1 ([] : LN)
 some (vB t11))) fun t12 =>
 br t12 (
 some (.ret (vS t0) h, .no)) (
 let t15 := Int.ofNat (lenL t1)
 let t16 := eqQ t15 (Int.ofNat 1)
 obB (brV t16 (
 ixCV (vS t1) (vI (Int.ofNat 0)) fun vt19 => asIV .u8 vt19 fun t19 =>
 let t20 := ltQ t19 (Int.ofNat 128)
 some (vB t20)) (
 some (vB false))) fun t21 =>
 br t21 (
 ixC (vS t1) (vI (Int.ofNat 0)) fun vt24 => asI .u8 vt24 fun t24 =>
 cal D 79 [(vS t0), (vC t24)] h fun t25 h1 =>
 asS t25 fun t25a =>
 some (.ret (vS t25a) h1, .no)) (
 cal D 80 [(vS t1)] h fun t28 h2 =>
 extC t28 0 fun t29 =>
 extC t28 1 fun vt30 => asB vt30 fun t30 =>
 let t5 := AV.ptr (HP.nxQ h2) 0
 let h3 := HP.newQ h2 (.cells true [(.bool false), (.bool false), (.bool false), (.bool false), (.bool false), (.bool false), (.bool false), (.bool false), (.bool false), (.bool false), (.bool false), (.bool false), (.bool false), (.bool false), (.bool false), (.bool false), (.bool false), (.bool false), (.bool false), (.bool false), (.bool false), (.bool false), (.bool false), (.bool false), (.bool false), (.bool false), (.bool false), (.bool false), (.bool false), (.bool false), (.bool false), (.bool false), (.bool false), (.bool false), (.bool false), (.bool false), (.bool false), (.bool false), (.bool false), (.bool false), (.bool false), (.bool false), (.bool false), (.bool false), (.bool false), (.bool false), (.bool false), (.bool false), (.bool false), (.bool false), (.bool false), (.bool false), (.bool false), (.bool false), (.bool false), (.bool false), (.bool false), (.bool false), (.bool false), (.bool false), (.bool false), (.bool false), (.bool false), (.bool false), (.bool false), (.bool false), (.bool false), (.bool false), (.bool false), (.bool false), (.bool false), (.bool false), (.bool false), (.bool false), (.bool false), (.bool false), (.bool false), (.bool false), (.bool false), (.bool false), (.bool false), (.bool false), (.bool false), (.bool false), (.bool false), (.bool false), (.bool false), (.bool false), (.bool false), (.bool false), (.bool false), (.bool false), (.bool false), (.bool false), (.bool false), (.bool false), (.bool false), (.bool false), (.bool false), (.bool false), (.bool false), (.bool false), (.bool false), (.bool false), (.bool false), (.bool false), (.bool false), (.bool false), (.bool false), (.bool false), (.bool false), (.bool false), (.bool false), (.bool false), (.bool false), (.bool false), (.bool false), (.bool false), (.bool false), (.bool false), (.bool false), (.bool false), (.bool false), (.bool false), (.bool false), (.bool false), (.bool false), (.bool false), (.bool false), (.bool false), (.bool false), (.bool false), (.bool false), (.bool false), (.bool false), (.bool false), (.bool false), (.bool false), (.bool false), (.bool false), (.bool false), (.bool false), (.bool false), (.bool false), (.bool false), (.bool false), (.bool false), (.bool false), (.bool false), (.bool false), (.bool false), (.bool false), (.bool false), (.bool false), (.bool false), (.bool false), (.bool false), (.bool false), (.bool false), (.bool false), (.bool false), (.bool false), (.bool false), (.bool false), (.bool false), (.bool false), (.bool false), (.bool false), (.bool false), (.bool false), (.bool false), (.bool false), (.bool false), (.bool false), (.bool false), (.bool false), (.bool false), (.bool false), (.bool false), (.bool false), (.bool false), (.bool false), (.bool false), (.bool false), (.bool false), (.bool false), (.bool false), (.bool false), (.bool false), (.bool false), (.bool false), (.bool false), (.bool false), (.bool false), (.bool false), (.bool false), (.bool false), (.bool false), (.bool false), (.bool false), (.bool false), (.bool false), (.bool false), (.bool false), (.bool false), (.bool false), (.bool false), (.bool false), (.bool false), (.bool false), (.bool false), (.bool false), (.bool false), (.bool false), (.bool false), (.bool false), (.bool false), (.bool false), (.bool false), (.bool false), (.bool false), (.bool false), (.bool false), (.bool false), (.bool false), (.bool false), (.bool false), (.bool false), (.bool false), (.bool false), (.bool false), (.bool false), (.bool false), (.bool false), (.bool false), (.bool false), (.bool false), (.bool false), (.bool false), (.bool false), (.bool false), (.bool false), (.bool false), (.bool false), (.bool false), (.bool false), (.bool false), (.bool false), (.bool false), (.bool false), (.bool false), (.bool false), (.bool false), (.bool false), (.bool false), (.bool false)])
 stsC 256 t5 t29 h3 fun h4 =>
 br t30 (
 cal D 81 [(vS t0), t5] h4 fun t33 h5 =>
 asS t33 fun t33a =>
 some (.ret (vS t33a) h5, .no)) (
 cal D 82 [(vS t0), (vS t1)] h4 fun t36 h6 =>
 asS t36 fun t36a =>
 some (.ret (vS t36a) h6, .no))))
def S56 : SFn := fun D m args h u => nou u <| popS args fun t0 args => popS args fun t1 args => endA args (S56_0 D m t0 t1 h)
theorem T56_0 (hE : FX x56 D m E) : S56_0 D m = e56_0 (E c56_e []) := by unfold S56_0; rw [hE c56_e]; kernel_rfl
theorem X56 : XTie S56 x56 := X_of fun D m E hE args h u => by unfold S56; rw [T56_0 hE]; kernel_rfl
/- 57 -/
def c57_e : XC := (.sO [.mv p4 (.c (.str [])) .s, .mv p5 (cb false) .b] (.seq (.seq (.oX [.mv p6 q0 .s, .mv p7 q1 .s, .cl p8 66 [q6, q7] .b, .P p9 (.un .not q8) .b]) (.cond q9 (.seq (.oX [.mv p10 q0 .s, .mv p4 q10 .s, .mv p5 (cb false) .b]) .ret) .skip)) (.sO [.mv p11 q0 .s, .mv p12 q1 .s, .P p13 (.lens q12) tI, .P p14 (.slice .str q11 (some q13) none none) .s, .mv p4 q14 .s, .mv p5 (cb true) .b] (.s .ret))))
def x57 : XFn := ⟨[.s, .s], false, [(.tmp p4), (.tmp p5)], c57_e⟩
def e57_0 (k t0 t1 h) := kN k [(p0, (vS t0)), (p1, (vS t1))] h
def S57_0 (D : CallD) (m : Nat) (t0 t1 : LN) (h : HP) : Res2 :=
 cal D 66 [(vS t0), (vS t1)] h fun t8 h1 =>
 asB t8 fun t8a =>
 let t9 := !t8a
 br t9 (
 some (.ret (.tup [(vS t0), (vB false)]) h1, .no)) (
 let t13 := Int.ofNat (lenL t1)
 slC (vS t0) (some (vI t13)) none fun vt14 => asS vt14 fun t14 =>
 some (.ret (.tup [(vS t14), (vB true)]) h1, .no))
def S57 : SFn := fun D m args h u => nou u <| popS args fun t0 args => popS args fun t1 args => endA args (S57_0 D m t0 t1 h)
theorem T57_0 (hE : FX x57 D m E) : S57_0 D m = e57_0 (E c57_e []) := by unfold S57_0; rw [hE c57_e]; kernel_rfl
theorem X57 : XTie S57 x57 := X_of fun D m E hE args h u => by unfold S57; rw [T57_0 hE]; kernel_rfl
/- 58 -/
def c58_e : XC := (.sO [.mv p4 (.c (.flt .f64 0)) .v, .mv p5 (.c .nili) .v] (.sO [.mv p10 q0 .s, .mv p11 q1 tI, .cl p12 83 [q10, q11] .v, .mv p9 q12 .v, .P p13 (.ext q9 0) .v, .P p14 (.ext q9 1) tI, .P p15 (.ext q9 2) .v, .mv p6 q13 .v, .mv p7 q14 tI, .mv p8 q15 .v] (.seq (.seq (.oX [.mv p16 q7 tI, .mv p17 q0 .s, .P p18 (.lens q17) tI, .bn p19 .neq q16 q18 .b]) (.cond q19 (.seq (.oX [.P p20 (.mkif 94 (ci 2)) .v, .mv p4 (.c (.flt .f64 0)) .v, .mv p5 q20 .v]) .ret) .skip)) (.sO [.mv p21 q6 .v, .mv p22 q8 .v, .mv p4 q21 .v, .mv p5 q22 .v] (.s .ret)))))
def x58 : XFn := ⟨[.s, tI], false, [(.tmp p4), (.tmp p5)], c58_e⟩
def e58_0 (k t0 t1 h) := kN k [(p0, (vS t0)), (p1, (vI t1))] h
def S58_0 (D : CallD) (m : Nat) (t0 : LN) (t1 : Int) (h : HP) : Res2 :=
 cal D 83 [(vS t0), (vI t1)] h fun t12 h1 =>
 extC t12 0 fun t13 =>
 extC t12 1 fun vt14 => asI .i64 vt14 fun t14 =>
 extC t12 2 fun t15 =>
 let t18 := Int.ofNat (lenL t0)
 let t19 := notQ (eqQ t14 t18)
 br t19 (
 let t20 := (AV.iface 94 (vI (Int.ofNat 2)))
 some (.ret (.tup [((.flt .f64 0) : AV), t20]) h1, .no)) (
 some (.ret (.tup [t13, t15]) h1, .no))
def S58 : SFn := fun D m args h u => nou u <| popS args fun t0 args => popI .i64 args fun t1 args => endA args (S58_0 D m t0 t1 h)
theorem T58_0 (hE : FX x58 D m E) : S58_0 D m = e58_0 (E c58_e []) := by unfold S58_0; rw [hE c58_e]; kernel_rfl
theorem X58 : XTie S58 x58 := X_of fun D m E hE args h u => by unfold S58; rw [T58_0 hE]; kernel_rfl
/- 63 -/
def v63_3 : List Pos := [p0, p4, p10, p11, p12, p13]
def c63_3 : XC := (.seq (.seq (.oX [.mv p94 q4 .b]) (.cond q94 (.seq (.oX [.mv p95 q0 .v, .mv p96 q13 tI, .P p97 (.slice (.arr 65 1) q12 (some q96) none none) .v, .o ⟨(some p98), (.e (.app 1 1 q95 q97)), none, []⟩ .v, .mv p10 q98 .v]) .ret) .skip)) (.sO [.mv p99 q13 tI, .P p100 (.slice (.arr 65 1) q12 (some q99) none none) .v, .L p101 (.bstr q100) .s, .mv p11 q101 .s] (.s .ret)))
def v63_2 : List Pos := [p0, p3, p4, p10, p11, p12, p13]
def c63_2 : XC := (.sj v63_3 (.sO [.mv p89 q3 .b] (.cond q89 (.sO [.mv p90 q13 tI, .bn p91 .sub q90 (ci 1) tI, .mv p13 q91 tI] (.s (.oX [.mv p92 q13 tI, .P p93 (.iaddr (.arr 65 1) q12 q92) .v, .st q93 (.c (.int .u8 (.ofNat 45)))]))) (.s .skip))) c63_3)
def v63_4 : List Pos := [p0, p1, p3, p4, p10, p11, p12, p13]
def c63_4 : XC := (.sO [.mv p58 q13 tI, .bn p59 .sub q58 (ci 1) tI, .mv p13 q59 tI] (.s (.oX [.mv p60 q13 tI, .mv p61 q1 (.i .u64), .P p62 (.idxs (.c (.str [48, 49, 50, 51, 52, 53, 54, 55, 56, 57, 97, 98, 99, 100, 101, 102, 103, 104, 105, 106, 107, 108, 109, 110, 111, 112, 113, 114, 115, 116, 117, 118, 119, 120, 121, 122])) q61) tC, .P p63 (.iaddr (.arr 65 1) q12 q60) .v, .st q63 q62])))
def v63_5 : List Pos := [p0, p1, p3, p4, p10, p11, p12, p13, p14, p15, p16]
def c63_5b : XC := (.seq (.seq (.oX [.mv p44 q1 (.i .u64), .mv p45 q15 (.i .u64), .bn p46 .geq q44 q45 .b]) (.cond q46 .skip (.exit 0))) (.block 1 (.sO [.mv p47 q13 tI, .bn p48 .sub q47 (ci 1) tI, .mv p13 q48 tI] (.sO [.mv p49 q13 tI, .mv p50 q1 (.i .u64), .mv p51 q16 (.i .u64), .bn p52 .and q50 q51 (.i .u64), .P p53 (.idxs (.c (.str [48, 49, 50, 51, 52, 53, 54, 55, 56, 57, 97, 98, 99, 100, 101, 102, 103, 104, 105, 106, 107, 108, 109, 110, 111, 112, 113, 114, 115, 116, 117, 118, 119, 120, 121, 122])) q52) tC, .P p54 (.iaddr (.arr 65 1) q12 q49) .v, .st q54 q53] (.s (.oX [.mv p55 q1 (.i .u64), .mv p56 q14 (.i .u64), .bn p57 .shr q55 q56 (.i .u64), .mv p1 q57 (.i .u64)]))))))
def v63_6 : List Pos := [p0, p1, p3, p4, p10, p11, p12, p13]
def c63_6 : XC := (.sO [.mv p83 q13 tI, .bn p84 .sub q83 (ci 1) tI, .mv p13 q84 tI] (.s (.oX [.mv p85 q13 tI, .mv p86 q1 (.i .u64), .P p87 (.idxs (.c (.str [48, 49, 50, 51, 52, 53, 54, 55, 56, 57, 97, 98, 99, 100, 101, 102, 103, 104, 105, 106, 107, 108, 109, 110, 111, 112, 113, 114, 115, 116, 117, 118, 119, 120, 121, 122])) q86) tC, .P p88 (.iaddr (.arr 65 1) q12 q85) .v, .st q88 q87])))
def v63_7 : List Pos := [p0, p1, p3, p4, p10, p11, p12, p13, p17]
def c63_7b : XC := (.seq (.seq (.oX [.mv p66 q1 (.i .u64), .mv p67 q17 (.i .u64), .bn p68 .geq q66 q67 .b]) (.cond q68 .skip (.exit 2))) (.block 3 (.sO [.mv p69 q13 tI, .bn p70 .sub q69 (ci 1) tI, .mv p13 q70 tI] (.sO [.mv p71 q1 (.i .u64), .mv p72 q17 (.i .u64), .bn p73 .quo q71 q72 (.i .u64), .mv p18 q73 (.i .u64)] (.sO [.mv p74 q13 tI, .mv p75 q1 (.i .u64), .mv p76 q18 (.i .u64), .mv p77 q17 (.i .u64), .bn p78 .mul q76 q77 (.i .u64), .bn p79 .sub q75 q78 (.i .u64), .P p80 (.idxs (.c (.str [48, 49, 50, 51, 52, 53, 54, 55, 56, 57, 97, 98, 99, 100, 101, 102, 103, 104, 105, 106, 107, 108, 109, 110, 111, 112, 113, 114, 115, 116, 117, 118, 119, 120, 121, 122])) q79) tC, .P p81 (.iaddr (.arr 65 1) q12 q74) .v, .st q81 q80] (.s (.oX [.mv p82 q18 (.i .u64), .mv p1 q82 (.i .u64)])))))))
def v63_1 : List Pos := [p0, p1, p2, p3, p4, p10, p11, p12, p13]
def c63_1 : XC := (.sj v63_2 (.sO [.mv p33 q2 tI, .cl p34 87 [q33] .b] (.cond q34 (.sO [.mv p35 q2 tI, .P p36 (.conv (.ii .u64) q35) (.i .u64), .cl p37 88 [q36] tI, .P p38 (.conv (.ii .u64) q37) (.i .u64), .mv p14 q38 (.i .u64)] (.sO [.mv p39 q2 tI, .P p40 (.conv (.ii .u64) q39) (.i .u64), .mv p15 q40 (.i .u64)] (.sO [.mv p41 q2 tI, .P p42 (.conv (.ii .u64) q41) (.i .u64), .bn p43 .sub q42 (.c (.int .u64 (.ofNat 1))) (.i .u64), .mv p16 q43 (.i .u64)] (.sj v63_4 (.block 0 (.loop v63_5 c63_5b)) c63_4)))) (.sO [.mv p64 q2 tI, .P p65 (.conv (.ii .u64) q64) (.i .u64), .mv p17 q65 (.i .u64)] (.sj v63_6 (.block 2 (.loop v63_7 c63_7b)) c63_6)))) c63_2)
def v63_0 : List Pos := [p0, p1, p2, p3, p4, p10, p11]
def c63_0 : XC := (.sO [.al p12 (.new [(.int .u8 (.ofNat 0)), (.int .u8 (.ofNat 0)), (.int .u8 (.ofNat 0)), (.int .u8 (.ofNat 0)), (.int .u8 (.ofNat 0)), (.int .u8 (.ofNat 0)), (.int .u8 (.ofNat 0)), (.int .u8 (.ofNat 0)), (.int .u8 (.ofNat 0)), (.int .u8 (.ofNat 0)), (.int .u8 (.ofNat 0)), (.int .u8 (.ofNat 0)), (.int .u8 (.ofNat 0)), (.int .u8 (.ofNat 0)), (.int .u8 (.ofNat 0)), (.int .u8 (.ofNat 0)), (.int .u8 (.ofNat 0)), (.int .u8 (.ofNat 0)), (.int .u8 (.ofNat 0)), (.int .u8 (.ofNat 0)), (.int .u8 (.ofNat 0)), (.int .u8 (.ofNat 0)), (.int .u8 (.ofNat 0)), (.int .u8 (.ofNat 0)), (.int .u8 (.ofNat 0)), (.int .u8 (.ofNat 0)), (.int .u8 (.ofNat 0)), (.int .u8 (.ofNat 0)), (.int .u8 (.ofNat 0)), (.int .u8 (.ofNat 0)), (.int .u8 (.ofNat 0)), (.int .u8 (.ofNat 0)), (.int .u8 (.ofNat 0)), (.int .u8 (.ofNat 0)), (.int .u8 (.ofNat 0)), (.int .u8 (.ofNat 0)), (.int .u8 (.ofNat 0)), (.int .u8 (.ofNat 0)), (.int .u8 (.ofNat 0)), (.int .u8 (.ofNat 0)), (.int .u8 (.ofNat 0)), (.int .u8 (.ofNat 0)), (.int .u8 (.ofNat 0)), (.int .u8 (.ofNat 0)), (.int .u8 (.ofNat 0)), (.int .u8 (.ofNat 0)), (.int .u8 (.ofNat 0)), (.int .u8 (.ofNat 0)), (.int .u8 (.ofNat 0)), (.int .u8 (.ofNat 0)), (.int .u8 (.ofNat 0)), (.int .u8 (.ofNat 0)), (.int .u8 (.ofNat 0)), (.int .u8 (.ofNat 0)), (.int .u8 (.ofNat 0)), (.int .u8 (.ofNat 0)), (.int .u8 (.ofNat 0)), (.int .u8 (.ofNat 0)), (.int .u8 (.ofNat 0)), (.int .u8 (.ofNat 0)), (.int .u8 (.ofNat 0)), (.int .u8 (.ofNat 0)), (.int .u8 (.ofNat 0)), (.int .u8 (.ofNat 0)), (.int .u8 (.ofNat 0))])] (.sO [.mv p13 (ci 65) tI] (.sj v63_1 (.sO [.mv p30 q3 .b] (.cond q30 (.s (.oX [.mv p31 q1 (.i .u64), .P p32 (.un .neg q31) (.i .u64), .mv p1 q32 (.i .u64)])) (.s .skip))) c63_1)))
def c63_e : XC := (.sO [.mv p10 (.c .nils) .v, .mv p11 (.c (.str [])) .s] (.sj v63_0 (.sO [.mv p19 q2 tI, .bn p20 .lss q19 (ci 2) .b, .mv p21 q20 .b, .ge p21 (XL.of [.G p21 false p22 (.mov q2) tI, .G p21 false p23 (.bin .eql q22 (ci 10)) .b, .P p24 (.pick q21 (cb true) q23) .b]) p24 .b, .mv p25 q24 .b, .ge p25 (XL.of [.G p25 false p26 (.mov q2) tI, .G p25 false p27 (.bin .gtr q26 (ci 36)) .b, .P p28 (.pick q25 (cb true) q27) .b]) p28 .b] (.cond q28 (.s (.oX [.P p29 (.mkif 9 (.c (.str [115, 116, 114, 99, 111, 110, 118, 58, 32, 105, 108, 108, 101, 103, 97, 108, 32, 65, 112, 112, 101, 110, 100, 73, 110, 116, 47, 70, 111, 114, 109, 97, 116, 73, 110, 116, 32, 98, 97, 115, 101]))) .v, .o ⟨none, (.panic q29), none, []⟩ .v])) (.s .skip))) c63_0))
def x63 : XFn := ⟨[.v, (.i .u64), tI, .b, .b], false, [(.tmp p10), (.tmp p11)], c63_e⟩
def e63_3 (k t0 t4 t10 t11 t12 t13 h) := kN k [(p0, t0), (p4, (vB t4)), (p10, t10), (p11, (vS t11)), (p12, t12), (p13, (vI t13))] h
def S63_3 (D : CallD) (m : Nat) (t0 : AV) (t4 : Bool) (t10 : AV) (t11 : LN) (t12 : AV) (t13 : Int) (h : HP) : Res2 :=
 br t4 (
 obQ (evP (.slice (.arr 65 1) (.c t12) (some (.c (vI t13))) none none) .leaf) fun t97 =>
 eff (.app 1 1 (.c t0) (.c t97)) h fun t98 h10 =>
 some (.ret (.tup [t98, (vS t11)]) h10, .no)) (
 obQ (evP (.slice (.arr 65 1) (.c t12) (some (.c (vI t13))) none none) .leaf) fun t100 =>
 obS (bstrV t100 h) fun t101 =>
 some (.ret (.tup [t10, (vS t101)]) h, .no))
def e63_2 (k t0 t3 t4 t10 t11 t12 t13 h) := kN k [(p0, t0), (p3, (vB t3)), (p4, (vB t4)), (p10, t10), (p11, (vS t11)), (p12, t12), (p13, (vI t13))] h
def S63_2 (D : CallD) (m : Nat) (t0 : AV) (t3 t4 : Bool) (t10 : AV) (t11 : LN) (t12 : AV) (t13 : Int) (h : HP) : Res2 :=
 br t3 (
 let t91 := wrQ .i64 (t13 - (Int.ofNat 1))
 iarC 65 1 t12 (vI t91) fun t93 =>
 stoC t93 (vC (Int.ofNat 45)) h fun h11 =>
 S63_3 D m t0 t4 t10 t11 t12 t91 h11) (
 S63_3 D m t0 t4 t10 t11 t12 t13 h)
def e63_4 (k t0 t1 t3 t4 t10 t11 t12 t13 h) := kN k [(p0, t0), (p1, (AV.int .u64 t1)), (p3, (vB t3)), (p4, (vB t4)), (p10, t10), (p11, (vS t11)), (p12, t12), (p13, (vI t13))] h
def S63_4 (D : CallD) (m : Nat) (t0 : AV) (t1 : Int) (t3 t4 : Bool) (t10 : AV) (t11 : LN) (t12 : AV) (t13 : Int) (h : HP) : Res2 :=
 let t59 := wrQ .i64 (t13 - (Int.ofNat 1))
 ixC (vS ([48, 49, 50, 51, 52, 53, 54, 55, 56, 57, 97, 98, 99, 100, 101, 102, 103, 104, 105, 106, 107, 108, 109, 110, 111, 112, 113, 114, 115, 116, 117, 118, 119, 120, 121, 122] : LN)) (AV.int .u64 t1) fun vt62 => asI .u8 vt62 fun t62 =>
 iarC 65 1 t12 (vI t59) fun t63 =>
 stoC t63 (vC t62) h fun h14 =>
 S63_2 D m t0 t3 t4 t10 t11 t12 t59 h14
def e63_5 (k t0 t1 t3 t4 t10 t11 t12 t13 t14 t15 t16 h) := kN k [(p0, t0), (p1, (AV.int .u64 t1)), (p3, (vB t3)), (p4, (vB t4)), (p10, t10), (p11, (vS t11)), (p12, t12), (p13, (vI t13)), (p14, (AV.int .u64 t14)), (p15, (AV.int .u64 t15)), (p16, (AV.int .u64 t16))] h
def S63_5b (D : CallD) (m : Nat) (g5 : AV → Int → Bool → Bool → AV → LN → AV → Int → Int → Int → Int → HP → Res2) (t0 : AV) (t1 : Int) (t3 t4 : Bool) (t10 : AV) (t11 : LN) (t12 : AV) (t13 t14 t15 t16 : Int) (h : HP) : Res2 :=
 let t46 := leQ t15 t1
 br t46 (
 let t48 := wrQ .i64 (t13 - (Int.ofNat 1))
 obI .u64 (intBin .and .u64 t1 t16) fun t52 =>
 ixC (vS ([48, 49, 50, 51, 52, 53, 54, 55, 56, 57, 97, 98, 99, 100, 101, 102, 103, 104, 105, 106, 107, 108, 109, 110, 111, 112, 113, 114, 115, 116, 117, 118, 119, 120, 121, 122] : LN)) (AV.int .u64 t52) fun vt53 => asI .u8 vt53 fun t53 =>
 iarC 65 1 t12 (vI t48) fun t54 =>
 stoC t54 (vC t53) h fun h15 =>
 obI .u64 (shiftF .shr .u64 t1 t14) fun t57 =>
 g5 t0 t57 t3 t4 t10 t11 t12 t48 t14 t15 t16 h15) (
 S63_4 D m t0 t1 t3 t4 t10 t11 t12 t13 h)
def S63_5 (D : CallD) (m : Nat) : AV → Int → Bool → Bool → AV → LN → AV → Int → Int → Int → Int → HP → Res2 := nrec (fun _ _ _ _ _ _ _ _ _ _ _ _ => none) (fun _ g => S63_5b D m g) m
def e63_6 (k t0 t1 t3 t4 t10 t11 t12 t13 h) := kN k [(p0, t0), (p1, (AV.int .u64 t1)), (p3, (vB t3)), (p4, (vB t4)), (p10, t10), (p11, (vS t11)), (p12, t12), (p13, (vI t13))] h
def S63_6 (D : CallD) (m : Nat) (t0 : AV) (t1 : Int) (t3 t4 : Bool) (t10 : AV) (t11 : LN) (t12 : AV) (t13 : Int) (h : HP) : Res2 :=
 let t84 := wrQ .i64 (t13 - (Int.ofNat 1))
 ixC (vS ([48, 49, 50, 51, 52, 53, 54, 55, 56, 57, 97, 98, 99, 100, 101, 102, 103, 104, 105, 106, 107, 108, 109, 110, 111, 112, 113, 114, 115, 116, 117, 118, 119, 120, 121, 122] : LN)) (AV.int .u64 t1) fun vt87 => asI .u8 vt87 fun t87 =>
 iarC 65 1 t12 (vI t84) fun t88 =>
 stoC t88 (vC t87) h fun h16 =>
 S63_2 D m t0 t3 t4 t10 t11 t12 t84 h16
def e63_7 (k t0 t1 t3 t4 t10 t11 t12 t13 t17 h) := kN k [(p0, t0), (p1, (AV.int .u64 t1)), (p3, (vB t3)), (p4, (vB t4)), (p10, t10), (p11, (vS t11)), (p12, t12), (p13, (vI t13)), (p17, (AV.int .u64 t17))] h
def S63_7b (D : CallD) (m : Nat) (g7 : AV → Int → Bool → Bool → AV → LN → AV → Int → Int → HP → Res2) (t0 : AV) (t1 : Int) (t3 t4 : Bool) (t10 : AV) (t11 : LN) (t12 : AV) (t13 t17 : Int) (h : HP) : Res2 :=
 let t68 := leQ t17 t1
 br t68 (
 let t70 := wrQ .i64 (t13 - (Int.ofNat 1))
 obI .u64 (intBin .quo .u64 t1 t17) fun t73 =>
 let t78 := wrQ .u64 (t73 * t17)
 let t79 := wrQ .u64 (t1 - t78)
 ixC (vS ([48, 49, 50, 51, 52, 53, 54, 55, 56, 57, 97, 98, 99, 100, 101, 102, 103, 104, 105, 106, 107, 108, 109, 110, 111, 112, 113, 114, 115, 116, 117, 118, 119, 120, 121, 122] : LN)) (AV.int .u64 t79) fun vt80 => asI .u8 vt80 fun t80 =>
 iarC 65 1 t12 (vI t70) fun t81 =>
 stoC t81 (vC t80) h fun h17 =>
 g7 t0 t73 t3 t4 t10 t11 t12 t70 t17 h17) (
 S63_6 D m t0 t1 t3 t4 t10 t11 t12 t13 h)
def S63_7 (D : CallD) (m : Nat) : AV → Int → Bool → Bool → AV → LN → AV → Int → Int → HP → Res2 := nrec (fun _ _ _ _ _ _ _ _ _ _ => none) (fun _ g => S63_7b D m g) m
def e63_1 (k t0 t1 t2 t3 t4 t10 t11 t12 t13 h) := kN k [(p0, t0), (p1, (AV.int .u64 t1)), (p2, (vI t2)), (p3, (vB t3)), (p4, (vB t4)), (p10, t10), (p11, (vS t11)), (p12, t12), (p13, (vI t13))] h
def S63_1 (D : CallD) (m : Nat) (t0 : AV) (t1 t2 : Int) (t3 t4 : Bool) (t10 : AV) (t11 : LN) (t12 : AV) (t13 : Int) (h : HP) : Res2 :=
 cal D 87 [(vI t2)] h fun t34 h12 =>
 asB t34 fun t34a =>
 br t34a (
 let t36 := wrapF .u64 t2
 cal D 88 [(AV.int .u64 t36)] h12 fun t37 h13 =>
 asI .i64 t37 fun t37a =>
 let t38 := wrapF .u64 t37a
 let t40 := wrapF .u64 t2
 let t42 := wrapF .u64 t2
 let t43 := wrQ .u64 (t42 - (Int.ofNat 1))
 S63_5 D m t0 t1 t3 t4 t10 t11 t12 t13 t38 t40 t43 h13) (
 let t65 := wrapF .u64 t2
 S63_7 D m t0 t1 t3 t4 t10 t11 t12 t13 t65 h12)
def e63_0 (k t0 t1 t2 t3 t4 t10 t11 h) := kN k [(p0, t0), (p1, (AV.int .u64 t1)), (p2, (vI t2)), (p3, (vB t3)), (p4, (vB t4)), (p10, t10), (p11, (vS t11))] h
def S63_0 (D : CallD) (m : Nat) (t0 : AV) (t1 t2 : Int) (t3 t4 : Bool) (t10 : AV) (t11 : LN) (h : HP) : Res2 :=
 let t12 := AV.ptr (HP.nxQ h) 0
 let h9 := HP.newQ h (.cells true [(.int .u8 (.ofNat 0)), (.int .u8 (.ofNat 0)), (.int .u8 (.ofNat 0)), (.int .u8 (.ofNat 0)), (.int .u8 (.ofNat 0)), (.int .u8 (.ofNat 0)), (.int .u8 (.ofNat 0)), (.int .u8 (.ofNat 0)), (.int .u8 (.ofNat 0)), (.int .u8 (.ofNat 0)), (.int .u8 (.ofNat 0)), (.int .u8 (.ofNat 0)), (.int .u8 (.ofNat 0)), (.int .u8 (.ofNat 0)), (.int .u8 (.ofNat 0)), (.int .u8 (.ofNat 0)), (.int .u8 (.ofNat 0)), (.int .u8 (.ofNat 0)), (.int .u8 (.ofNat 0)), (.int .u8 (.ofNat 0)), (.int .u8 (.ofNat 0)), (.int .u8 (.ofNat 0)), (.int .u8 (.ofNat 0)), (.int .u8 (.ofNat 0)), (.int .u8 (.ofNat 0)), (.int .u8 (.ofNat 0)), (.int .u8 (.ofNat 0)), (.int .u8 (.ofNat 0)), (.int .u8 (.ofNat 0)), (.int .u8 (.ofNat 0)), (.int .u8 (.ofNat 0)), (.int .u8 (.ofNat 0)), (.int .u8 (.ofNat 0)), (.int .u8 (.ofNat 0)), (.int .u8 (.ofNat 0)), (.int .u8 (.ofNat 0)), (.int .u8 (.ofNat 0)), (.int .u8 (.ofNat 0)), (.int .u8 (.ofNat 0)), (.int .u8 (.ofNat 0)), (.int .u8 (.ofNat 0)), (.int .u8 (.ofNat 0)), (.int .u8 (.ofNat 0)), (.int .u8 (.ofNat 0)), (.int .u8 (.ofNat 0)), (.int .u8 (.ofNat 0)), (.int .u8 (.ofNat 0)), (.int .u8 (.ofNat 0)), (.int .u8 (.ofNat 0)), (.int .u8 (.ofNat 0)), (.int .u8 (.ofNat 0)), (.int .u8 (.ofNat 0)), (.int .u8 (.ofNat 0)), (.int .u8 (.ofNat 0)), (.int .u8 (.ofNat 0)), (.int .u8 (.ofNat 0)), (.int .u8 (.ofNat 0)), (.int .u8 (.ofNat 0)), (.int .u8 (.ofNat 0)), (.int .u8 (.ofNat 0)), (.int .u8 (.ofNat 0)), (.int .u8 (.ofNat 0)), (.int .u8 (.ofNat 0)), (.int .u8 (.ofNat 0)), (.int .u8 (.ofNat 0))])
 br t3 (
 let t32 := IntKind.wrap .u64 (0 - t1)
 S63_1 D m t0 t32 t2 t3 t4 t10 t11 t12 (Int.ofNat 65) h9) (
 S63_1 D m t0 t1 t2 t3 t4 t10 t11 t12 (Int.ofNat 65) h9)
def e63_8 (k t0 t1 t2 t3 t4 h) := kN k [(p0, t0), (p1, (AV.int .u64 t1)), (p2, (vI t2)), (p3, (vB t3)), (p4, (vB t4))] h
def S63_8 (D : CallD) (m : Nat) (t0 : AV) (t1 t2 : Int) (t3 t4 : Bool) (h : HP) : Res2 :=
 let t20 := ltQ t2 (Int.ofNat 2)
 obB (brV t20 (
 some (vB true)) (
 let t23 := eqQ t2 (Int.ofNat 10)
 some (vB t23))) fun t24 =>
 obB (brV t24 (
 some (vB true)) (
 let t27 := ltQ (Int.ofNat 36) t2
 some (vB t27))) fun t28 =>
 br t28 (
 let t29 := (AV.iface 9 (vS ([115, 116, 114, 99, 111, 110, 118, 58, 32, 105, 108, 108, 101, 103, 97, 108, 32, 65, 112, 112, 101, 110, 100, 73, 110, 116, 47, 70, 111, 114, 109, 97, 116, 73, 110, 116, 32, 98, 97, 115, 101] : LN)))
 some (.pan [(.iface 9 (vS ([115, 116, 114, 99, 111, 110, 118, 58, 32, 105, 108, 108, 101, 103, 97, 108, 32, 65, 112, 112, 101, 110, 100, 73, 110, 116, 47, 70, 111, 114, 109, 97, 116, 73, 110, 116, 32, 98, 97, 115, 101] : LN)), false)] h, .no)) (
 S63_0 D m t0 t1 t2 t3 t4 (.nils : AV) ([] : LN) h)
def S63 : SFn := fun D m args h u => nou u <| popV args fun t0 args => popI .u64 args fun t1 args => popI .i64 args fun t2 args => popB args fun t3 args => popB args fun t4 args => endA args (S63_8 D m t0 t1 t2 t3 t4 h)
theorem T63_3 (hE : FX x63 D m E) : S63_3 D m = e63_3 (E c63_3 []) := by unfold S63_3; rw [hE c63_3]; kernel_rfl
theorem T63_2 (hE : FX x63 D m E) : S63_2 D m = e63_2 (E c63_2 []) := by unfold S63_2; rw [T63_3 hE, hE c63_2]; kernel_rfl
theorem T63_4 (hE : FX x63 D m E) : S63_4 D m = e63_4 (E c63_4 [.sj v63_2 c63_2]) := by unfold S63_4; rw [T63_2 hE, hE c63_4]; kernel_rfl
theorem T63_5b (hE : FX x63 D m E) (G5) : S63_5b D m (e63_5 G5) = e63_5 (E c63_5b [.lp v63_5 G5, .blk 0, .sj v63_4 c63_4, .sj v63_2 c63_2]) := by unfold S63_5b; rw [T63_4 hE, hE c63_5b]; kernel_rfl
theorem T63_5 (hE : FX x63 D m E) : S63_5 D m = e63_5 (nrec (fun _ => none) (fun _ G5 st => E c63_5b [.lp v63_5 G5, .blk 0, .sj v63_4 c63_4, .sj v63_2 c63_2] st) m) :=
  nrec_emb e63_5 (fun _ _ _ _ _ _ _ _ _ _ _ _ => none) (fun g => S63_5b D m g) (fun G5 st => E c63_5b [.lp v63_5 G5, .blk 0, .sj v63_4 c63_4, .sj v63_2 c63_2] st) rfl (fun g => T63_5b hE g) m
theorem T63_6 (hE : FX x63 D m E) : S63_6 D m = e63_6 (E c63_6 [.sj v63_2 c63_2]) := by unfold S63_6; rw [T63_2 hE, hE c63_6]; kernel_rfl
theorem T63_7b (hE : FX x63 D m E) (G7) : S63_7b D m (e63_7 G7) = e63_7 (E c63_7b [.lp v63_7 G7, .blk 2, .sj v63_6 c63_6, .sj v63_2 c63_2]) := by unfold S63_7b; rw [T63_6 hE, hE c63_7b]; kernel_rfl
theorem T63_7 (hE : FX x63 D m E) : S63_7 D m = e63_7 (nrec (fun _ => none) (fun _ G7 st => E c63_7b [.lp v63_7 G7, .blk 2, .sj v63_6 c63_6, .sj v63_2 c63_2] st) m) :=
  nrec_emb e63_7 (fun _ _ _ _ _ _ _ _ _ _ => none) (fun g => S63_7b D m g) (fun G7 st => E c63_7b [.lp v63_7 G7, .blk 2, .sj v63_6 c63_6, .sj v63_2 c63_2] st) rfl (fun g => T63_7b hE g) m
theorem T63_1 (hE : FX x63 D m E) : S63_1 D m = e63_1 (E c63_1 []) := by unfold S63_1; rw [T63_5 hE, T63_7 hE, hE c63_1]; kernel_rfl
theorem T63_0 (hE : FX x63 D m E) : S63_0 D m = e63_0 (E c63_0 []) := by unfold S63_0; rw [T63_1 hE, hE c63_0]; kernel_rfl
theorem T63_8 (hE : FX x63 D m E) : S63_8 D m = e63_8 (E c63_e []) := by unfold S63_8; rw [T63_0 hE, hE c63_e]; kernel_rfl
theorem X63 : XTie S63 x63 := X_of fun D m E hE args h u => by unfold S63; rw [T63_8 hE]; kernel_rfl
/- 66 -/
def c66_e : XC := (.sO [.mv p4 (cb false) .b] (.sO [.mv p5 q0 .s, .P p6 (.lens q5) tI, .mv p7 q1 .s, .P p8 (.lens q7) tI, .bn p9 .geq q6 q8 .b, .mv p10 q9 .b, .ge p10 (XL.of [.G p10 true p11 (.mov q0) .s, .G p10 true p12 (.mov q1) .s, .G p10 true p13 (.lens q12) tI, .G p10 true p14 (.slice .str q11 none (some q13) none) .s, .G p10 true p15 (.mov q1) .s, .G p10 true p16 (.bin .eql q14 q15) .b, .P p17 (.pick q10 q16 (cb false)) .b]) p17 .b, .mv p4 q17 .b] (.s .ret)))
def x66 : XFn := ⟨[.s, .s], false, [(.tmp p4)], c66_e⟩
def e66_0 (k t0 t1 h) := kN k [(p0, (vS t0)), (p1, (vS t1))] h
def S66_0 (D : CallD) (m : Nat) (t0 t1 : LN) (h : HP) : Res2 :=
 let t6 := Int.ofNat (lenL t0)
 let t8 := Int.ofNat (lenL t1)
 let t9 := leQ t8 t6
 obB (brV t9 (
 let t13 := Int.ofNat (lenL t1)
 slCV (vS t0) none (some (vI t13)) fun vt14 => asSV vt14 fun t14 =>
 let t16 := eqL t14 t1
 some (vB t16)) (
 some (vB false))) fun t17 =>
 some (.ret (vB t17) h, .no)
def S66 : SFn := fun D m args h u => nou u <| popS args fun t0 args => popS args fun t1 args => endA args (S66_0 D m t0 t1 h)
theorem T66_0 (hE : FX x66 D m E) : S66_0 D m = e66_0 (E c66_e []) := by unfold S66_0; rw [hE c66_e]; kernel_rfl
theorem X66 : XTie S66 x66 := X_of fun D m E hE args h u => by unfold S66; rw [T66_0 hE]; kernel_rfl
/- 69 -/
def v69_0 : List Pos := [p5]
def c69_0 : XC := (.sO [.mv p33 q5 .v, .cl p34 91 [q33] .v, .mv p4 q34 .v] (.s .ret))
def v69_1 : List Pos := [p0, p1, p5, p6, p7]
def c69_1b : XC := (.seq (.seq (.oX [.mv p9 q7 tI, .mv p10 q0 .v, .P p11 (.lenl q10) tI, .bn p12 .lss q9 q11 .b, .mv p13 q12 .b, .ge p13 (XL.of [.G p13 false p14 (.mov q6) tI, .G p13 false p15 (.bin .gtr q14 (ci 0)) .b, .P p16 (.pick q13 (cb true) q15) .b]) p16 .b]) (.cond q16 .skip (.exit 0))) (.seq (.block 1 (.seq (.oX [.mv p19 q0 .v, .mv p20 q7 tI, .cl p21 72 [q19, q20] tI, .mv p22 q1 tI, .bn p23 .mul q21 q22 tI, .mv p24 q6 tI, .bn p25 .add q23 q24 tI, .mv p8 q25 tI]) (.seq (.oX [.mv p26 q5 .v, .mv p27 q8 tI, .bn p28 .rem q27 (ci 65536) tI, .al p29 (.bsl [(kI 0)] 1 [⟨0, 1, q28⟩]), .o ⟨(some p30), (.e (.app 1 8 q26 q29)), none, []⟩ .v, .mv p5 q30 .v]) (.oX [.mv p31 q8 tI, .bn p32 .quo q31 (ci 65536) tI, .mv p6 q32 tI])))) (.s (.oX [.mv p17 q7 tI, .bn p18 .add q17 (ci 1) tI, .mv p7 q18 tI]))))
def c69_e : XC := (.sO [.mv p4 (.c .nils) .v] (.sO [.mv p5 (.c .nils) .v] (.sO [.mv p6 (ci 0) tI] (.sj v69_0 (.sO [.mv p7 (ci 0) tI] (.block 0 (.loop v69_1 c69_1b))) c69_0))))
def x69 : XFn := ⟨[.v, tI], false, [(.tmp p4)], c69_e⟩
def e69_0 (k t5 h) := kN k [(p5, t5)] h
def S69_0 (D : CallD) (m : Nat) (t5 : AV) (h : HP) : Res2 :=
 cal D 91 [t5] h fun t34 h3 =>
 some (.ret t34 h3, .no)
def e69_1 (k t0 t1 t5 t6 t7 h) := kN k [(p0, t0), (p1, (vI t1)), (p5, t5), (p6, (vI t6)), (p7, (vI t7))] h
def S69_1b (D : CallD) (m : Nat) (g1 : AV → Int → AV → Int → Int → HP → Res2) (t0 : AV) (t1 : Int) (t5 : AV) (t6 t7 : Int) (h : HP) : Res2 :=
 lenC t0 fun vt11 => asI .i64 vt11 fun t11 =>
 let t12 := ltQ t7 t11
 obB (brV t12 (
 some (vB true)) (
 let t15 := ltQ (Int.ofNat 0) t6
 some (vB t15))) fun t16 =>
 br t16 (
 cal D 72 [t0, (vI t7)] h fun t21 h4 =>
 asI .i64 t21 fun t21a =>
 let t23 := wrQ .i64 (t21a * t1)
 let t25 := wrQ .i64 (addQ t23 t6)
 let t28 := Int.tmod t25 (Int.ofNat 65536)
 let t29 := AV.slice (HP.nxQ h4) 0 1 (.exact 1)
 let h5 := HP.newQ h4 (.cells true [(vI t28)])
 eff (.app 1 8 (.c t5) (.c t29)) h5 fun t30 h6 =>
 let t32 := wrapF .i64 (Int.tdiv t25 (Int.ofNat 65536))
 let t18 := wrQ .i64 (addQ t7 (Int.ofNat 1))
 g1 t0 t1 t30 t32 t18 h6) (
 S69_0 D m t5 h)
def S69_1 (D : CallD) (m : Nat) : AV → Int → AV → Int → Int → HP → Res2 := nrec (fun _ _ _ _ _ _ => none) (fun _ g => S69_1b D m g) m
def e69_2 (k t0 t1 h) := kN k [(p0, t0), (p1, (vI t1))] h
def S69_2 (D : CallD) (m : Nat) (t0 : AV) (t1 : Int) (h : HP) : Res2 :=
 S69_1 D m t0 t1 (.nils : AV) (Int.ofNat 0) (Int.ofNat 0) h
def S69 : SFn := fun D m args h u => nou u <| popV args fun t0 args => popI .i64 args fun t1 args => endA args (S69_2 D m t0 t1 h)
theorem T69_0 (hE : FX x69 D m E) : S69_0 D m = e69_0 (E c69_0 []) := by unfold S69_0; rw [hE c69_0]; kernel_rfl
theorem T69_1b (hE : FX x69 D m E) (G1) : S69_1b D m (e69_1 G1) = e69_1 (E c69_1b [.lp v69_1 G1, .blk 0, .sj v69_0 c69_0]) := by unfold S69_1b; rw [T69_0 hE, hE c69_1b]; kernel_rfl
theorem T69_1 (hE : FX x69 D m E) : S69_1 D m = e69_1 (nrec (fun _ => none) (fun _ G1 st => E c69_1b [.lp v69_1 G1, .blk 0, .sj v69_0 c69_0] st) m) :=
  nrec_emb e69_1 (fun _ _ _ _ _ _ => none) (fun g => S69_1b D m g) (fun G1 st => E c69_1b [.lp v69_1 G1, .blk 0, .sj v69_0 c69_0] st) rfl (fun g => T69_1b hE g) m
theorem T69_2 (hE : FX x69 D m E) : S69_2 D m = e69_2 (E c69_e []) := by unfold S69_2; rw [T69_1 hE, hE c69_e]; kernel_rfl
theorem X69 : XTie S69 x69 := X_of fun D m E hE args h u => by unfold S69; rw [T69_2 hE]; kernel_rfl
/- 70 -/
def v70_0 : List Pos := [p5]
def c70_0 : XC := (.sO [.mv p33 q5 .v, .cl p34 91 [q33] .v, .mv p4 q34 .v] (.s .ret))
def v70_2 : List Pos := [p0, p1, p5, p6, p10, p11]
def c70_2 : XC := (.s (.oX [.bn p32 .add q11 (ci 1) tI, .mv p11 q32 tI]))
def v70_3 : List Pos := [p0, p1, p5, p6, p8, p10, p11]
def c70_3 : XC := (.s (.oX [.mv p28 q5 .v, .mv p29 q8 tI, .al p30 (.bsl [(kI 0)] 1 [⟨0, 1, q29⟩]), .o ⟨(some p31), (.e (.app 1 8 q28 q30)), none, []⟩ .v, .mv p5 q31 .v]))
def v70_1 : List Pos := [p0, p1, p5, p6, p10, p11]
def c70_1b : XC := (.sO [.bn p12 .lss q11 q10 .b] (.seq (.cond q12 .skip (.exit 0)) (.sj v70_2 (.block 1 (.sO [.mv p13 q11 tI, .mv p7 q13 tI] (.seq (.ops true (XL.of [.mv p14 q0 .v, .mv p15 q7 tI, .P p16 (.iaddr (.sl 1) q14 q15) .v, .ld p17 q16 tI, .mv p18 q1 .v, .mv p19 q7 tI, .mv p22 q6 tI, .o ⟨(some p20), (.call (.fn 72) [q18, q19]), none, [⟨none, .cell q16, p17⟩]⟩ tI, .bn p21 .sub q17 q20 tI, .bn p23 .sub q21 q22 tI, .mv p8 q23 tI])) (.sO [.mv p6 (ci 0) tI] (.sj v70_3 (.sO [.mv p24 q8 tI, .bn p25 .lss q24 (ci 0) .b] (.cond q25 (.sO [.mv p26 q8 tI, .bn p27 .add q26 (ci 65536) tI, .mv p8 q27 tI] (.s (.oX [.mv p6 (ci 1) tI]))) (.s .skip))) c70_3))))) c70_2)))
def c70_e : XC := (.sO [.mv p4 (.c .nils) .v] (.sO [.mv p5 (.c .nils) .v] (.sO [.mv p6 (ci 0) tI] (.sj v70_0 (.sO [.mv p9 q0 .v, .P p10 (.lenl q9) tI, .mv p11 (ci 0) tI] (.block 0 (.loop v70_1 c70_1b))) c70_0))))
def x70 : XFn := ⟨[.v, .v], false, [(.tmp p4)], c70_e⟩
def e70_0 (k t5 h) := kN k [(p5, t5)] h
def S70_0 (D : CallD) (m : Nat) (t5 : AV) (h : HP) : Res2 :=
 cal D 91 [t5] h fun t34 h5 =>
 some (.ret t34 h5, .no)
def e70_2 (k t0 t1 t5 t6 t10 t11 h) := kN k [(p0, t0), (p1, t1), (p5, t5), (p6, (vI t6)), (p10, (vI t10)), (p11, (vI t11))] h
def S70_2 (D : CallD) (m : Nat) (g1 : AV → AV → AV → Int → Int → Int → HP → Res2) (t0 t1 t5 : AV) (t6 t10 t11 : Int) (h : HP) : Res2 :=
 let t32 := wrQ .i64 (addQ t11 (Int.ofNat 1))
 g1 t0 t1 t5 t6 t10 t32 h
def e70_3 (k t0 t1 t5 t6 t8 t10 t11 h) := kN k [(p0, t0), (p1, t1), (p5, t5), (p6, (vI t6)), (p8, (vI t8)), (p10, (vI t10)), (p11, (vI t11))] h
def S70_3 (D : CallD) (m : Nat) (g1 : AV → AV → AV → Int → Int → Int → HP → Res2) (t0 t1 t5 : AV) (t6 t8 t10 t11 : Int) (h : HP) : Res2 :=
 let t30 := AV.slice (HP.nxQ h) 0 1 (.exact 1)
 let h7 := HP.newQ h (.cells true [(vI t8)])
 eff (.app 1 8 (.c t5) (.c t30)) h7 fun t31 h8 =>
 S70_2 D m g1 t0 t1 t31 t6 t10 t11 h8
def e70_1 (k t0 t1 t5 t6 t10 t11 h) := kN k [(p0, t0), (p1, t1), (p5, t5), (p6, (vI t6)), (p10, (vI t10)), (p11, (vI t11))] h
def S70_1b (D : CallD) (m : Nat) (g1 : AV → AV → AV → Int → Int → Int → HP → Res2) (t0 t1 t5 : AV) (t6 t10 t11 : Int) (h : HP) : Res2 :=
 let t12 := ltQ t11 t10
 br t12 (
 iasC 1 t0 (vI t11) fun t16 =>
 ldI t16 h fun t17 =>
 cal D 72 [t1, (vI t11)] h fun t20 h6 =>
 br (again [⟨none, .cell q16, p17⟩] (mkT [(p17, (vI t17)), (p16, t16)]) h6) (
 asI .i64 t20 fun t20a =>
 let t21 := wrQ .i64 (t17 - t20a)
 let t23 := wrQ .i64 (t21 - t6)
 let t25 := ltQ t23 (Int.ofNat 0)
 br t25 (
 let t27 := wrQ .i64 (addQ t23 (Int.ofNat 65536))
 S70_3 D m g1 t0 t1 t5 (Int.ofNat 1) t27 t10 t11 h6) (
 S70_3 D m g1 t0 t1 t5 (Int.ofNat 0) t23 t10 t11 h6)) none) (
 S70_0 D m t5 h)
def S70_1 (D : CallD) (m : Nat) : AV → AV → AV → Int → Int → Int → HP → Res2 := nrec (fun _ _ _ _ _ _ _ => none) (fun _ g => S70_1b D m g) m
def e70_4 (k t0 t1 h) := kN k [(p0, t0), (p1, t1)] h
def S70_4 (D : CallD) (m : Nat) (t0 t1 : AV) (h : HP) : Res2 :=
 lenC t0 fun vt10 => asI .i64 vt10 fun t10 =>
 S70_1 D m t0 t1 (.nils : AV) (Int.ofNat 0) t10 (Int.ofNat 0) h
def S70 : SFn := fun D m args h u => nou u <| popV args fun t0 args => popV args fun t1 args => endA args (S70_4 D m t0 t1 h)
theorem T70_0 (hE : FX x70 D m E) : S70_0 D m = e70_0 (E c70_0 []) := by unfold S70_0; rw [hE c70_0]; kernel_rfl
theorem T70_2 (hE : FX x70 D m E) (G1) : S70_2 D m (e70_1 G1) = e70_2 (E c70_2 [.lp v70_1 G1, .blk 0, .sj v70_0 c70_0]) := by unfold S70_2; rw [hE c70_2]; kernel_rfl
theorem T70_3 (hE : FX x70 D m E) (G1) : S70_3 D m (e70_1 G1) = e70_3 (E c70_3 [.blk 1, .sj v70_2 c70_2, .lp v70_1 G1, .blk 0, .sj v70_0 c70_0]) := by unfold S70_3; rw [T70_2 hE G1, hE c70_3]; kernel_rfl
theorem T70_1b (hE : FX x70 D m E) (G1) : S70_1b D m (e70_1 G1) = e70_1 (E c70_1b [.lp v70_1 G1, .blk 0, .sj v70_0 c70_0]) := by unfold S70_1b; rw [T70_3 hE G1, T70_0 hE, hE c70_1b]; kernel_rfl
theorem T70_1 (hE : FX x70 D m E) : S70_1 D m = e70_1 (nrec (fun _ => none) (fun _ G1 st => E c70_1b [.lp v70_1 G1, .blk 0, .sj v70_0 c70_0] st) m) :=
  nrec_emb e70_1 (fun _ _ _ _ _ _ _ => none) (fun g => S70_1b D m g) (fun G1 st => E c70_1b [.lp v70_1 G1, .blk 0, .sj v70_0 c70_0] st) rfl (fun g => T70_1b hE g) m
theorem T70_4 (hE : FX x70 D m E) : S70_4 D m = e70_4 (E c70_e []) := by unfold S70_4; rw [T70_1 hE, hE c70_e]; kernel_rfl
theorem X70 : XTie S70 x70 := X_of fun D m E hE args h u => by unfold S70; rw [T70_4 hE]; kernel_rfl
/- 71 -/
def v71_0 : List Pos := [p3]
def c71_0 : XC := (.sO [.mv p26 q3 .v, .cl p27 91 [q26] .v, .mv p2 q27 .v] (.s .ret))
def v71_1 : List Pos := [p0, p3, p6, p7]
def c71_1b : XC := (.sO [.bn p8 .lss q7 q6 .b] (.seq (.cond q8 .skip (.exit 0)) (.seq (.block 1 (.seq (.oX [.mv p9 q7 tI, .mv p4 q9 tI]) (.ops true (XL.of [.mv p10 q3 .v, .mv p11 q0 .v, .mv p12 q4 tI, .P p13 (.iaddr (.sl 1) q11 q12) .v, .ld p14 q13 tI, .bn p15 .quo q14 (ci 2) tI, .mv p16 q0 .v, .mv p17 q4 tI, .bn p18 .add q17 (ci 1) tI, .o ⟨(some p19), (.call (.fn 72) [q16, q18]), none, [⟨none, .cell q13, p14⟩]⟩ tI, .bn p20 .rem q19 (ci 2) tI, .bn p21 .mul q20 (ci 32768) tI, .bn p22 .add q15 q21 tI, .al p23 (.bsl [(kI 0)] 1 [⟨0, 1, q22⟩]), .o ⟨(some p24), (.e (.app 1 8 q10 q23)), none, []⟩ .v, .mv p3 q24 .v])))) (.s (.oX [.bn p25 .add q7 (ci 1) tI, .mv p7 q25 tI])))))
def c71_e : XC := (.sO [.mv p2 (.c .nils) .v] (.sO [.mv p3 (.c .nils) .v] (.sj v71_0 (.sO [.mv p5 q0 .v, .P p6 (.lenl q5) tI, .mv p7 (ci 0) tI] (.block 0 (.loop v71_1 c71_1b))) c71_0)))
def x71 : XFn := ⟨[.v], false, [(.tmp p2)], c71_e⟩
def e71_0 (k t3 h) := kN k [(p3, t3)] h
def S71_0 (D : CallD) (m : Nat) (t3 : AV) (h : HP) : Res2 :=
 cal D 91 [t3] h fun t27 h3 =>
 some (.ret t27 h3, .no)
def e71_1 (k t0 t3 t6 t7 h) := kN k [(p0, t0), (p3, t3), (p6, (vI t6)), (p7, (vI t7))] h
def S71_1b (D : CallD) (m : Nat) (g1 : AV → AV → Int → Int → HP → Res2) (t0 t3 : AV) (t6 t7 : Int) (h : HP) : Res2 :=
 let t8 := ltQ t7 t6
 br t8 (
 iasC 1 t0 (vI t7) fun t13 =>
 ldI t13 h fun t14 =>
 let t15 := wrapF .i64 (Int.tdiv t14 (Int.ofNat 2))
 let t18 := wrQ .i64 (addQ t7 (Int.ofNat 1))
 cal D 72 [t0, (vI t18)] h fun t19 h4 =>
 br (again [⟨none, .cell q13, p14⟩] (mkT [(p14, (vI t14)), (p13, t13)]) h4) (
 asI .i64 t19 fun t19a =>
 let t20 := Int.tmod t19a (Int.ofNat 2)
 let t21 := wrQ .i64 (t20 * (Int.ofNat 32768))
 let t22 := wrQ .i64 (addQ t15 t21)
 let t23 := AV.slice (HP.nxQ h4) 0 1 (.exact 1)
 let h5 := HP.newQ h4 (.cells true [(vI t22)])
 eff (.app 1 8 (.c t3) (.c t23)) h5 fun t24 h6 =>
 let t25 := wrQ .i64 (addQ t7 (Int.ofNat 1))
 g1 t0 t24 t6 t25 h6) none) (
 S71_0 D m t3 h)
def S71_1 (D : CallD) (m : Nat) : AV → AV → Int → Int → HP → Res2 := nrec (fun _ _ _ _ _ => none) (fun _ g => S71_1b D m g) m
def e71_2 (k t0 h) := kN k [(p0, t0)] h
def S71_2 (D : CallD) (m : Nat) (t0 : AV) (h : HP) : Res2 :=
 lenC t0 fun vt6 => asI .i64 vt6 fun t6 =>
 S71_1 D m t0 (.nils : AV) t6 (Int.ofNat 0) h
def S71 : SFn := fun D m args h u => nou u <| popV args fun t0 args => endA args (S71_2 D m t0 h)
theorem T71_0 (hE : FX x71 D m E) : S71_0 D m = e71_0 (E c71_0 []) := by unfold S71_0; rw [hE c71_0]; kernel_rfl
theorem T71_1b (hE : FX x71 D m E) (G1) : S71_1b D m (e71_1 G1) = e71_1 (E c71_1b [.lp v71_1 G1, .blk 0, .sj v71_0 c71_0]) := by unfold S71_1b; rw [T71_0 hE, hE c71_1b]; kernel_rfl
theorem T71_1 (hE : FX x71 D m E) : S71_1 D m = e71_1 (nrec (fun _ => none) (fun _ G1 st => E c71_1b [.lp v71_1 G1, .blk 0, .sj v71_0 c71_0] st) m) :=
  nrec_emb e71_1 (fun _ _ _ _ _ => none) (fun g => S71_1b D m g) (fun G1 st => E c71_1b [.lp v71_1 G1, .blk 0, .sj v71_0 c71_0] st) rfl (fun g => T71_1b hE g) m
theorem T71_2 (hE : FX x71 D m E) : S71_2 D m = e71_2 (E c71_e []) := by unfold S71_2; rw [T71_1 hE, hE c71_e]; kernel_rfl
theorem X71 : XTie S71 x71 := X_of fun D m E hE args h u => by unfold S71; rw [T71_2 hE]; kernel_rfl
/- 72 -/
def c72_e : XC := (.sO [.mv p4 (ci 0) tI] (.seq (.seq (.oX [.mv p5 q1 tI, .mv p6 q0 .v, .P p7 (.lenl q6) tI, .bn p8 .lss q5 q7 .b]) (.cond q8 (.seq (.oX [.mv p9 q0 .v, .mv p10 q1 tI, .P p11 (.iaddr (.sl 1) q9 q10) .v, .ld p12 q11 tI, .mv p4 q12 tI]) .ret) .skip)) (.sO [.mv p4 (ci 0) tI] (.s .ret))))
def x72 : XFn := ⟨[.v, tI], false, [(.tmp p4)], c72_e⟩
def e72_0 (k t0 t1 h) := kN k [(p0, t0), (p1, (vI t1))] h
def S72_0 (D : CallD) (m : Nat) (t0 : AV) (t1 : Int) (h : HP) : Res2 :=
 lenC t0 fun vt7 => asI .i64 vt7 fun t7 =>
 let t8 := ltQ t1 t7
 br t8 (
 iasC 1 t0 (vI t1) fun t11 =>
 ldI t11 h fun t12 =>
 some (.ret (vI t12) h, .no)) (
 some (.ret (vI (Int.ofNat 0)) h, .no))
def S72 : SFn := fun D m args h u => nou u <| popV args fun t0 args => popI .i64 args fun t1 args => endA args (S72_0 D m t0 t1 h)
theorem T72_0 (hE : FX x72 D m E) : S72_0 D m = e72_0 (E c72_e []) := by unfold S72_0; rw [hE c72_e]; kernel_rfl
theorem X72 : XTie S72 x72 := X_of fun D m E hE args h u => by unfold S72; rw [T72_0 hE]; kernel_rfl
/- 73 -/
def c73_e : XC := (.sO [.mv p2 (.c (.int .u8 (.ofNat 0))) tC] (.sO [.mv p3 q0 tC, .bn p4 .or q3 (.c (.int .u8 (.ofNat 32))) tC, .mv p2 q4 tC] (.s .ret)))
def x73 : XFn := ⟨[tC], false, [(.tmp p2)], c73_e⟩
def e73_0 (k t0 h) := kN k [(p0, (vC t0))] h
def S73_0 (D : CallD) (m : Nat) (t0 : Int) (h : HP) : Res2 :=
 obI .u8 (intBin .or .u8 t0 (Int.ofNat 32)) fun t4 =>
 some (.ret (vC t4) h, .no)
def S73 : SFn := fun D m args h u => nou u <| popI .u8 args fun t0 args => endA args (S73_0 D m t0 h)
theorem T73_0 (hE : FX x73 D m E) : S73_0 D m = e73_0 (E c73_e []) := by unfold S73_0; rw [hE c73_e]; kernel_rfl
theorem X73 : XTie S73 x73 := X_of fun D m E hE args h u => by unfold S73; rw [T73_0 hE]; kernel_rfl
/- 79 -/
def v79_0 : List Pos := [p0]
def c79_0 : XC := (.sO [.mv p16 q0 .s, .mv p4 q16 .s] (.s .ret))
def v79_1 : List Pos := [p0, p1]
def c79_1b : XC := (.seq (.seq (.oX [.mv p5 q0 .s, .P p6 (.lens q5) tI, .bn p7 .gtr q6 (ci 0) .b, .mv p8 q7 .b, .ge p8 (XL.of [.G p8 true p9 (.mov q0) .s, .G p8 true p10 (.idxs q9 (ci 0)) tC, .G p8 true p11 (.mov q1) tC, .G p8 true p12 (.bin .eql q10 q11) .b, .P p13 (.pick q8 q12 (cb false)) .b]) p13 .b]) (.cond q13 .skip (.exit 0))) (.block 1 (.s (.oX [.mv p14 q0 .s, .P p15 (.slice .str q14 (some (ci 1)) none none) .s, .mv p0 q15 .s]))))
def c79_e : XC := (.sO [.mv p4 (.c (.str [])) .s] (.sj v79_0 (.block 0 (.loop v79_1 c79_1b)) c79_0))
def x79 : XFn := ⟨[.s, tC], false, [(.tmp p4)], c79_e⟩
def e79_0 (k t0 h) := kN k [(p0, (vS t0))] h
def S79_0 (D : CallD) (m : Nat) (t0 : LN) (h : HP) : Res2 :=
 some (.ret (vS t0) h, .no)
def e79_1 (k t0 t1 h) := kN k [(p0, (vS t0)), (p1, (vC t1))] h
def S79_1b (D : CallD) (m : Nat) (g1 : LN → Int → HP → Res2) (t0 : LN) (t1 : Int) (h : HP) : Res2 :=
 let t6 := Int.ofNat (lenL t0)
 let t7 := ltQ (Int.ofNat 0) t6
 obB (brV t7 (
 ixCV (vS t0) (vI (Int.ofNat 0)) fun vt10 => asIV .u8 vt10 fun t10 =>
 let t12 := eqQ t10 t1
 some (vB t12)) (
 some (vB false))) fun t13 =>
 br t13 (
 slC (vS t0) (some (vI (Int.ofNat 1))) none fun vt15 => asS vt15 fun t15 =>
 g1 t15 t1 h) (
 S79_0 D m t0 h)
def S79_1 (D : CallD) (m : Nat) : LN → Int → HP → Res2 := nrec (fun _ _ _ => none) (fun _ g => S79_1b D m g) m
def e79_2 (k t0 t1 h) := kN k [(p0, (vS t0)), (p1, (vC t1))] h
def S79_2 (D : CallD) (m : Nat) (t0 : LN) (t1 : Int) (h : HP) : Res2 :=
 S79_1 D m t0 t1 h
def S79 : SFn := fun D m args h u => nou u <| popS args fun t0 args => popI .u8 args fun t1 args => endA args (S79_2 D m t0 t1 h)
theorem T79_0 (hE : FX x79 D m E) : S79_0 D m = e79_0 (E c79_0 []) := by unfold S79_0; rw [hE c79_0]; kernel_rfl
theorem T79_1b (hE : FX x79 D m E) (G1) : S79_1b D m (e79_1 G1) = e79_1 (E c79_1b [.lp v79_1 G1, .blk 0, .sj v79_0 c79_0]) := by unfold S79_1b; rw [T79_0 hE, hE c79_1b]; kernel_rfl
theorem T79_1 (hE : FX x79 D m E) : S79_1 D m = e79_1 (nrec (fun _ => none) (fun _ G1 st => E c79_1b [.lp v79_1 G1, .blk 0, .sj v79_0 c79_0] st) m) :=
  nrec_emb e79_1 (fun _ _ _ => none) (fun g => S79_1b D m g) (fun G1 st => E c79_1b [.lp v79_1 G1, .blk 0, .sj v79_0 c79_0] st) rfl (fun g => T79_1b hE g) m
theorem T79_2 (hE : FX x79 D m E) : S79_2 D m = e79_2 (E c79_e []) := by unfold S79_2; rw [T79_1 hE, hE c79_e]; kernel_rfl
theorem X79 : XTie S79 x79 := X_of fun D m E hE args h u => by unfold S79; rw [T79_2 hE]; kernel_rfl
/- 80 -/
def v80_0 : List Pos := [p2]
def c80_0 : XC := (.sO [.L p20 (.cells 256 q2) .v, .ss 256 q2 q20, .mv p3 (cb true) .b] (.s .ret))
def v80_1 : List Pos := [p0, p2, p4]
def c80_1b : XC := (.seq (.seq (.oX [.mv p6 q4 tI, .mv p7 q0 .s, .P p8 (.lens q7) tI, .bn p9 .lss q6 q8 .b]) (.cond q9 .skip (.exit 0))) (.seq (.block 1 (.seq (.oX [.mv p12 q0 .s, .mv p13 q4 tI, .P p14 (.idxs q12 q13) tC, .mv p5 q14 tC]) (.seq (.seq (.oX [.mv p15 q5 tC, .bn p16 .geq q15 (.c (.int .u8 (.ofNat 128))) .b]) (.cond q16 (.seq (.oX [.L p17 (.cells 256 q2) .v, .ss 256 q2 q17, .mv p3 (cb false) .b]) .ret) .skip)) (.oX [.mv p18 q5 tC, .P p19 (.iaddr (.arr 256 1) q2 q18) .v, .st q19 (cb true)])))) (.s (.oX [.mv p10 q4 tI, .bn p11 .add q10 (ci 1) tI, .mv p4 q11 tI]))))
def c80_e : XC := (.sO [.al p2 (.new [(.bool false), (.bool false), (.bool false), (.bool false), (.bool false), (.bool false), (.bool false), (.bool false), (.bool false), (.bool false), (.bool false), (.bool false), (.bool false), (.bool false), (.bool false), (.bool false), (.bool false), (.bool false), (.bool false), (.bool false), (.bool false), (.bool false), (.bool false), (.bool false), (.bool false), (.bool false), (.bool false), (.bool false), (.bool false), (.bool false), (.bool false), (.bool false), (.bool false), (.bool false), (.bool false), (.bool false), (.bool false), (.bool false), (.bool false), (.bool false), (.bool false), (.bool false), (.bool false), (.bool false), (.bool false), (.bool false), (.bool false), (.bool false), (.bool false), (.bool false), (.bool false), (.bool false), (.bool false), (.bool false), (.bool false), (.bool false), (.bool false), (.bool false), (.bool false), (.bool false), (.bool false), (.bool false), (.bool false), (.bool false), (.bool false), (.bool false), (.bool false), (.bool false), (.bool false), (.bool false), (.bool false), (.bool false), (.bool false), (.bool false), (.bool false), (.bool false), (.bool false), (.bool false), (.bool false), (.bool false), (.bool false), (.bool false), (.bool false), (.bool false), (.bool false), (.bool false), (.bool false), (.bool false), (.bool false), (.bool false), (.bool false), (.bool false), (.bool false), (.bool false), (.bool false), (.bool false), (.bool false), (.bool false), (.bool false), (.bool false), (.bool false), (.bool false), (.bool false), (.bool false), (.bool false), (.bool false), (.bool false), (.bool false), (.bool false), (.bool false), (.bool false), (.bool false), (.bool false), (.bool false), (.bool false), (.bool false), (.bool false), (.bool false), (.bool false), (.bool false), (.bool false), (.bool false), (.bool false), (.bool false), (.bool false), (.bool false), (.bool false), (.bool false), (.bool false), (.bool false), (.bool false), (.bool false), (.bool false), (.bool false), (.bool false), (.bool false), (.bool false), (.bool false), (.bool false), (.bool false), (.bool false), (.bool false), (.bool false), (.bool false), (.bool false), (.bool false), (.bool false), (.bool false), (.bool false), (.bool false), (.bool false), (.bool false), (.bool false), (.bool false), (.bool false), (.bool false), (.bool false), (.bool false), (.bool false), (.bool false), (.bool false), (.bool false), (.bool false), (.bool false), (.bool false), (.bool false), (.bool false), (.bool false), (.bool false), (.bool false), (.bool false), (.bool false), (.bool false), (.bool false), (.bool false), (.bool false), (.bool false), (.bool false), (.bool false), (.bool false), (.bool false), (.bool false), (.bool false), (.bool false), (.bool false), (.bool false), (.bool false), (.bool false), (.bool false), (.bool false), (.bool false), (.bool false), (.bool false), (.bool false), (.bool false), (.bool false), (.bool false), (.bool false), (.bool false), (.bool false), (.bool false), (.bool false), (.bool false), (.bool false), (.bool false), (.bool false), (.bool false), (.bool false), (.bool false), (.bool false), (.bool false), (.bool false), (.bool false), (.bool false), (.bool false), (.bool false), (.bool false), (.bool false), (.bool false), (.bool false), (.bool false), (.bool false), (.bool false), (.bool false), (.bool false), (.bool false), (.bool false), (.bool false), (.bool false), (.bool false), (.bool false), (.bool false), (.bool false), (.bool false), (.bool false), (.bool false), (.bool false), (.bool false), (.bool false), (.bool false), (.bool false), (.bool false), (.bool false), (.bool false), (.bool false), (.bool false), (.bool false), (.bool false), (.bool false), (.bool false), (.bool false), (.bool false), (.bool false), (.bool false), (.bool false), (.bool false)]), .mv p3 (cb false) .b] (.sj v80_0 (.sO [.mv p4 (ci 0) tI] (.block 0 (.loop v80_1 c80_1b))) c80_0))
def x80 : XFn := ⟨[.s], false, [(.cells 256 p2), (.tmp p3)], c80_e⟩
def e80_0 (k t2 h) := kN k [(p2, t2)] h
def S80_0 (D : CallD) (m : Nat) (t2 : AV) (h : HP) : Res2 :=
 cellsC 256 t2 h fun t20 =>
 stsC 256 t2 t20 h fun h4 =>
 cellsC 256 t2 h4 fun t2a =>
 some (.ret (.tup [t2a, (vB true)]) h4, .no)
def e80_1 (k t0 t2 t4 h) := kN k [(p0, (vS t0)), (p2, t2), (p4, (vI t4))] h
def S80_1b (D : CallD) (m : Nat) (g1 : LN → AV → Int → HP → Res2) (t0 : LN) (t2 : AV) (t4 : Int) (h : HP) : Res2 :=
 let t8 := Int.ofNat (lenL t0)
 let t9 := ltQ t4 t8
 br t9 (
 ixC (vS t0) (vI t4) fun vt14 => asI .u8 vt14 fun t14 =>
 let t16 := leQ (Int.ofNat 128) t14
 br t16 (
 cellsC 256 t2 h fun t17 =>
 stsC 256 t2 t17 h fun h5 =>
 cellsC 256 t2 h5 fun t2a =>
 some (.ret (.tup [t2a, (vB false)]) h5, .no)) (
 iarC 256 1 t2 (vC t14) fun t19 =>
 stoC t19 (vB true) h fun h6 =>
 let t11 := wrQ .i64 (addQ t4 (Int.ofNat 1))
 g1 t0 t2 t11 h6)) (
 S80_0 D m t2 h)
def S80_1 (D : CallD) (m : Nat) : LN → AV → Int → HP → Res2 := nrec (fun _ _ _ _ => none) (fun _ g => S80_1b D m g) m
def e80_2 (k t0 h) := kN k [(p0, (vS t0))] h
def S80_2 (D : CallD) (m : Nat) (t0 : LN) (h : HP) : Res2 :=
 let t2 := AV.ptr (HP.nxQ h) 0
 let h3 := HP.newQ h (.cells true [(.bool false), (.bool false), (.bool false), (.bool false), (.bool false), (.bool false), (.bool false), (.bool false), (.bool false), (.bool false), (.bool false), (.bool false), (.bool false), (.bool false), (.bool false), (.bool false), (.bool false), (.bool false), (.bool false), (.bool false), (.bool false), (.bool false), (.bool false), (.bool false), (.bool false), (.bool false), (.bool false), (.bool false), (.bool false), (.bool false), (.bool false), (.bool false), (.bool false), (.bool false), (.bool false), (.bool false), (.bool false), (.bool false), (.bool false), (.bool false), (.bool false), (.bool false), (.bool false), (.bool false), (.bool false), (.bool false), (.bool false), (.bool false), (.bool false), (.bool false), (.bool false), (.bool false), (.bool false), (.bool false), (.bool false), (.bool false), (.bool false), (.bool false), (.bool false), (.bool false), (.bool false), (.bool false), (.bool false), (.bool false), (.bool false), (.bool false), (.bool false), (.bool false), (.bool false), (.bool false), (.bool false), (.bool false), (.bool false), (.bool false), (.bool false), (.bool false), (.bool false), (.bool false), (.bool false), (.bool false), (.bool false), (.bool false), (.bool false), (.bool false), (.bool false), (.bool false), (.bool false), (.bool false), (.bool false), (.bool false), (.bool false), (.bool false), (.bool false), (.bool false), (.bool false), (.bool false), (.bool false), (.bool false), (.bool false), (.bool false), (.bool false), (.bool false), (.bool false), (.bool false), (.bool false), (.bool false), (.bool false), (.bool false), (.bool false), (.bool false), (.bool false), (.bool false), (.bool false), (.bool false), (.bool false), (.bool false), (.bool false), (.bool false), (.bool false), (.bool false), (.bool false), (.bool false), (.bool false), (.bool false), (.bool false), (.bool false), (.bool false), (.bool false), (.bool false), (.bool false), (.bool false), (.bool false), (.bool false), (.bool false), (.bool false), (.bool false), (.bool false), (.bool false), (.bool false), (.bool false), (.bool false), (.bool false), (.bool false), (.bool false), (.bool false), (.bool false), (.bool false), (.bool false), (.bool false), (.bool false), (.bool false), (.bool false), (.bool false), (.bool false), (.bool false), (.bool false), (.bool false), (.bool false), (.bool false), (.bool false), (.bool false), (.bool false), (.bool false), (.bool false), (.bool false), (.bool false), (.bool false), (.bool false), (.bool false), (.bool false), (.bool false), (.bool false), (.bool false), (.bool false), (.bool false), (.bool false), (.bool false), (.bool false), (.bool false), (.bool false), (.bool false), (.bool false), (.bool false), (.bool false), (.bool false), (.bool false), (.bool false), (.bool false), (.bool false), (.bool false), (.bool false), (.bool false), (.bool false), (.bool false), (.bool false), (.bool false), (.bool false), (.bool false), (.bool false), (.bool false), (.bool false), (.bool false), (.bool false), (.bool false), (.bool false), (.bool false), (.bool false), (.bool false), (.bool false), (.bool false), (.bool false), (.bool false), (.bool false), (.bool false), (.bool false), (.bool false), (.bool false), (.bool false), (.bool false), (.bool false), (.bool false), (.bool false), (.bool false), (.bool false), (.bool false), (.bool false), (.bool false), (.bool false), (.bool false), (.bool false), (.bool false), (.bool false), (.bool false), (.bool false), (.bool false), (.bool false), (.bool false), (.bool false), (.bool false), (.bool false), (.bool false), (.bool false), (.bool false), (.bool false), (.bool false), (.bool false), (.bool false), (.bool false), (.bool false), (.bool false), (.bool false), (.bool false), (.bool false), (.bool false), (.bool false), (.bool false)])
 S80_1 D m t0 t2 (Int.ofNat 0) h3
def S80 : SFn := fun D m args h u => nou u <| popS args fun t0 args => endA args (S80_2 D m t0 h)
theorem T80_0 (hE : FX x80 D m E) : S80_0 D m = e80_0 (E c80_0 []) := by unfold S80_0; rw [hE c80_0]; kernel_rfl
theorem T80_1b (hE : FX x80 D m E) (G1) : S80_1b D m (e80_1 G1) = e80_1 (E c80_1b [.lp v80_1 G1, .blk 0, .sj v80_0 c80_0]) := by unfold S80_1b; rw [T80_0 hE, hE c80_1b]; kernel_rfl
theorem T80_1 (hE : FX x80 D m E) : S80_1 D m = e80_1 (nrec (fun _ => none) (fun _ G1 st => E c80_1b [.lp v80_1 G1, .blk 0, .sj v80_0 c80_0] st) m) :=
  nrec_emb e80_1 (fun _ _ _ _ => none) (fun g => S80_1b D m g) (fun G1 st => E c80_1b [.lp v80_1 G1, .blk 0, .sj v80_0 c80_0] st) rfl (fun g => T80_1b hE g) m
theorem T80_2 (hE : FX x80 D m E) : S80_2 D m = e80_2 (E c80_e []) := by unfold S80_2; rw [T80_1 hE, hE c80_e]; kernel_rfl
theorem X80 : XTie S80 x80 := X_of fun D m E hE args h u => by unfold S80; rw [T80_2 hE]; kernel_rfl
/- 81 -/
def v81_0 : List Pos := [p0]
def c81_0 : XC := (.sO [.mv p15 q0 .s, .mv p4 q15 .s] (.s .ret))
def v81_1 : List Pos := [p0, p1]
def c81_1b : XC := (.seq (.seq (.oX [.mv p5 q0 .s, .P p6 (.lens q5) tI, .bn p7 .gtr q6 (ci 0) .b]) (.cond q7 .skip (.exit 0))) (.block 1 (.seq (.seq (.oX [.mv p8 q1 .v, .mv p9 q0 .s, .P p10 (.idxs q9 (ci 0)) tC, .cl p11 95 [q8, q10] .b, .P p12 (.un .not q11) .b]) (.cond q12 (.exit 0) .skip)) (.s (.oX [.mv p13 q0 .s, .P p14 (.slice .str q13 (some (ci 1)) none none) .s, .mv p0 q14 .s])))))
def c81_e : XC := (.sO [.mv p4 (.c (.str [])) .s] (.sj v81_0 (.block 0 (.loop v81_1 c81_1b)) c81_0))
def x81 : XFn := ⟨[.s, .v], false, [(.tmp p4)], c81_e⟩
def e81_0 (k t0 h) := kN k [(p0, (vS t0))] h
def S81_0 (D : CallD) (m : Nat) (t0 : LN) (h : HP) : Res2 :=
 some (.ret (vS t0) h, .no)
def e81_1 (k t0 t1 h) := kN k [(p0, (vS t0)), (p1, t1)] h
def S81_1b (D : CallD) (m : Nat) (g1 : LN → AV → HP → Res2) (t0 : LN) (t1 : AV) (h : HP) : Res2 :=
 let t6 := Int.ofNat (lenL t0)
 let t7 := ltQ (Int.ofNat 0) t6
 br t7 (
 ixC (vS t0) (vI (Int.ofNat 0)) fun vt10 => asI .u8 vt10 fun t10 =>
 cal D 95 [t1, (vC t10)] h fun t11 h3 =>
 asB t11 fun t11a =>
 let t12 := !t11a
 br t12 (
 S81_0 D m t0 h3) (
 slC (vS t0) (some (vI (Int.ofNat 1))) none fun vt14 => asS vt14 fun t14 =>
 g1 t14 t1 h3)) (
 S81_0 D m t0 h)
def S81_1 (D : CallD) (m : Nat) : LN → AV → HP → Res2 := nrec (fun _ _ _ => none) (fun _ g => S81_1b D m g) m
def e81_2 (k t0 t1 h) := kN k [(p0, (vS t0)), (p1, t1)] h
def S81_2 (D : CallD) (m : Nat) (t0 : LN) (t1 : AV) (h : HP) : Res2 :=
 S81_1 D m t0 t1 h
def S81 : SFn := fun D m args h u => nou u <| popS args fun t0 args => popV args fun t1 args => endA args (S81_2 D m t0 t1 h)
theorem T81_0 (hE : FX x81 D m E) : S81_0 D m = e81_0 (E c81_0 []) := by unfold S81_0; rw [hE c81_0]; kernel_rfl
theorem T81_1b (hE : FX x81 D m E) (G1) : S81_1b D m (e81_1 G1) = e81_1 (E c81_1b [.lp v81_1 G1, .blk 0, .sj v81_0 c81_0]) := by unfold S81_1b; rw [T81_0 hE, hE c81_1b]; kernel_rfl
theorem T81_1 (hE : FX x81 D m E) : S81_1 D m = e81_1 (nrec (fun _ => none) (fun _ G1 st => E c81_1b [.lp v81_1 G1, .blk 0, .sj v81_0 c81_0] st) m) :=
  nrec_emb e81_1 (fun _ _ _ => none) (fun g => S81_1b D m g) (fun G1 st => E c81_1b [.lp v81_1 G1, .blk 0, .sj v81_0 c81_0] st) rfl (fun g => T81_1b hE g) m
theorem T81_2 (hE : FX x81 D m E) : S81_2 D m = e81_2 (E c81_e []) := by unfold S81_2; rw [T81_1 hE, hE c81_e]; kernel_rfl
theorem X81 : XTie S81 x81 := X_of fun D m E hE args h u => by unfold S81; rw [T81_2 hE]; kernel_rfl
/- 83 -/
def c83_e : XC := (.sO [.mv p4 (.c (.flt .f64 0)) .v, .mv p5 (ci 0) tI, .mv p6 (.c .nili) .v] (.seq (.seq (.oX [.mv p10 q1 tI, .bn p11 .eql q10 (ci 32) .b]) (.cond q11 (.seq (.oX [.mv p13 q0 .s, .cl p14 98 [q13] .v, .mv p12 q14 .v, .P p15 (.ext q12 0) .v, .P p16 (.ext q12 1) tI, .P p17 (.ext q12 2) .v, .mv p7 q15 .v, .mv p8 q16 tI, .mv p9 q17 .v]) (.seq (.oX [.mv p18 q7 .v, .o ⟨(some p19), .bad, none, []⟩ .v, .mv p20 q8 tI, .mv p21 q9 .v, .mv p4 q19 .v, .mv p5 q20 tI, .mv p6 q21 .v]) .ret)) .skip)) (.sO [.mv p22 q0 .s, .cl p23 99 [q22] .v, .P p24 (.ext q23 0) .v, .P p25 (.ext q23 1) tI, .P p26 (.ext q23 2) .v, .mv p4 q24 .v, .mv p5 q25 tI, .mv p6 q26 .v] (.s .ret))))
def x83 : XFn := ⟨[.s, tI], false, [(.tmp p4), (.tmp p5), (.tmp p6)], c83_e⟩
def e83_0 (k t0 t1 h) := kN k [(p0, (vS t0)), (p1, (vI t1))] h
def S83_0 (D : CallD) (m : Nat) (t0 : LN) (t1 : Int) (h : HP) : Res2 :=
 let t11 := eqQ t1 (Int.ofNat 32)
 br t11 (
 cal D 98 [(vS t0)] h fun t14 h1 =>
 extC t14 0 fun t15 =>
 extC t14 1 fun vt16 => asI .i64 vt16 fun t16 =>
 extC t14 2 fun t17 =>
 none) (
 cal D 99 [(vS t0)] h fun t23 h2 =>
 extC t23 0 fun t24 =>
 extC t23 1 fun vt25 => asI .i64 vt25 fun t25 =>
 extC t23 2 fun t26 =>
 some (.ret (.tup [t24, (vI t25), t26]) h2, .no))
def S83 : SFn := fun D m args h u => nou u <| popS args fun t0 args => popI .i64 args fun t1 args => endA args (S83_0 D m t0 t1 h)
theorem T83_0 (hE : FX x83 D m E) : S83_0 D m = e83_0 (E c83_e []) := by unfold S83_0; rw [hE c83_e]; kernel_rfl
theorem X83 : XTie S83 x83 := X_of fun D m E hE args h u => by unfold S83; rw [T83_0 hE]; kernel_rfl
/- 87 -/
def c87_e : XC := (.sO [.mv p2 (cb false) .b] (.sO [.mv p3 q0 tI, .mv p4 q0 tI, .bn p5 .sub q4 (ci 1) tI, .bn p6 .and q3 q5 tI, .bn p7 .eql q6 (ci 0) .b, .mv p2 q7 .b] (.s .ret)))
def x87 : XFn := ⟨[tI], false, [(.tmp p2)], c87_e⟩
def e87_0 (k t0 h) := kN k [(p0, (vI t0))] h
def S87_0 (D : CallD) (m : Nat) (t0 : Int) (h : HP) : Res2 :=
 let t5 := wrQ .i64 (t0 - (Int.ofNat 1))
 obI .i64 (intBin .and .i64 t0 t5) fun t6 =>
 let t7 := eqQ t6 (Int.ofNat 0)
 some (.ret (vB t7) h, .no)
def S87 : SFn := fun D m args h u => nou u <| popI .i64 args fun t0 args => endA args (S87_0 D m t0 h)
theorem T87_0 (hE : FX x87 D m E) : S87_0 D m = e87_0 (E c87_e []) := by unfold S87_0; rw [hE c87_e]; kernel_rfl
theorem X87 : XTie S87 x87 := X_of fun D m E hE args h u => by unfold S87; rw [T87_0 hE]; kernel_rfl
/- 88 -/
def c88_e : XC := (.sO [.mv p2 (ci 0) tI] (.seq (.cond (cb false) (.seq (.oX [.mv p3 q0 (.i .u64), .P p4 (.conv (.ii .u32) q3) tW, .cl p5 100 [q4] tI, .mv p2 q5 tI]) .ret) .skip) (.sO [.mv p6 q0 (.i .u64), .cl p7 101 [q6] tI, .mv p2 q7 tI] (.s .ret))))
def x88 : XFn := ⟨[(.i .u64)], false, [(.tmp p2)], c88_e⟩
def e88_0 (k t0 h) := kN k [(p0, (AV.int .u64 t0))] h
def S88_0 (D : CallD) (m : Nat) (t0 : Int) (h : HP) : Res2 :=
 cal D 101 [(AV.int .u64 t0)] h fun t7 h1 =>
 asI .i64 t7 fun t7a =>
 some (.ret (vI t7a) h1, .no)
def S88 : SFn := fun D m args h u => nou u <| popI .u64 args fun t0 args => endA args (S88_0 D m t0 h)
theorem T88_0 (hE : FX x88 D m E) : S88_0 D m = e88_0 (E c88_e []) := by unfold S88_0; rw [hE c88_e]; kernel_rfl
theorem X88 : XTie S88 x88 := X_of fun D m E hE args h u => by unfold S88; rw [T88_0 hE]; kernel_rfl
/- 91 -/
def v91_0 : List Pos := [p0, p3]
def c91_0 : XC := (.sO [.mv p18 q0 .v, .mv p19 q3 tI, .P p20 (.slice (.sl 1) q18 none (some q19) none) .v, .mv p2 q20 .v] (.s .ret))
def v91_1 : List Pos := [p0, p3]
def c91_1b : XC := (.seq (.seq (.oX [.mv p6 q3 tI, .bn p7 .gtr q6 (ci 0) .b, .mv p8 q7 .b, .ge p8 (XL.of [.G p8 true p9 (.mov q0) .v, .G p8 true p10 (.mov q3) tI, .G p8 true p11 (.bin .sub q10 (ci 1)) tI, .G p8 true p12 (.iaddr (.sl 1) q9 q11) .v, .o ⟨(some p13), (.l (.cell q12)), (some (p8, true)), []⟩ tI, .G p8 true p14 (.bin .eql q13 (ci 0)) .b, .P p15 (.pick q8 q14 (cb false)) .b]) p15 .b]) (.cond q15 .skip (.exit 0))) (.block 1 (.s (.oX [.mv p16 q3 tI, .bn p17 .sub q16 (ci 1) tI, .mv p3 q17 tI]))))
def c91_e : XC := (.sO [.mv p2 (.c .nils) .v] (.sO [.mv p4 q0 .v, .P p5 (.lenl q4) tI, .mv p3 q5 tI] (.sj v91_0 (.block 0 (.loop v91_1 c91_1b)) c91_0)))
def x91 : XFn := ⟨[.v], false, [(.tmp p2)], c91_e⟩
def e91_0 (k t0 t3 h) := kN k [(p0, t0), (p3, (vI t3))] h
def S91_0 (D : CallD) (m : Nat) (t0 : AV) (t3 : Int) (h : HP) : Res2 :=
 obQ (evP (.slice (.sl 1) (.c t0) none (some (.c (vI t3))) none) .leaf) fun t20 =>
 some (.ret t20 h, .no)
def e91_1 (k t0 t3 h) := kN k [(p0, t0), (p3, (vI t3))] h
def S91_1b (D : CallD) (m : Nat) (g1 : AV → Int → HP → Res2) (t0 : AV) (t3 : Int) (h : HP) : Res2 :=
 let t7 := ltQ (Int.ofNat 0) t3
 obB (brV t7 (
 let t11 := wrQ .i64 (t3 - (Int.ofNat 1))
 iasCV 1 t0 (vI t11) fun t12 =>
 ldIV t12 h fun t13 =>
 let t14 := eqQ t13 (Int.ofNat 0)
 some (vB t14)) (
 some (vB false))) fun t15 =>
 br t15 (
 let t17 := wrQ .i64 (t3 - (Int.ofNat 1))
 g1 t0 t17 h) (
 S91_0 D m t0 t3 h)
def S91_1 (D : CallD) (m : Nat) : AV → Int → HP → Res2 := nrec (fun _ _ _ => none) (fun _ g => S91_1b D m g) m
def e91_2 (k t0 h) := kN k [(p0, t0)] h
def S91_2 (D : CallD) (m : Nat) (t0 : AV) (h : HP) : Res2 :=
 lenC t0 fun vt5 => asI .i64 vt5 fun t5 =>
 S91_1 D m t0 t5 h
def S91 : SFn := fun D m args h u => nou u <| popV args fun t0 args => endA args (S91_2 D m t0 h)
theorem T91_0 (hE : FX x91 D m E) : S91_0 D m = e91_0 (E c91_0 []) := by unfold S91_0; rw [hE c91_0]; kernel_rfl
theorem T91_1b (hE : FX x91 D m E) (G1) : S91_1b D m (e91_1 G1) = e91_1 (E c91_1b [.lp v91_1 G1, .blk 0, .sj v91_0 c91_0]) := by unfold S91_1b; rw [T91_0 hE, hE c91_1b]; kernel_rfl
theorem T91_1 (hE : FX x91 D m E) : S91_1 D m = e91_1 (nrec (fun _ => none) (fun _ G1 st => E c91_1b [.lp v91_1 G1, .blk 0, .sj v91_0 c91_0] st) m) :=
  nrec_emb e91_1 (fun _ _ _ => none) (fun g => S91_1b D m g) (fun G1 st => E c91_1b [.lp v91_1 G1, .blk 0, .sj v91_0 c91_0] st) rfl (fun g => T91_1b hE g) m
theorem T91_2 (hE : FX x91 D m E) : S91_2 D m = e91_2 (E c91_e []) := by unfold S91_2; rw [T91_1 hE, hE c91_e]; kernel_rfl
theorem X91 : XTie S91 x91 := X_of fun D m E hE args h u => by unfold S91; rw [T91_2 hE]; kernel_rfl
/- 95 -/
def c95_e : XC := (.sO [.mv p4 (cb false) .b] (.sO [.mv p5 q0 .v, .mv p6 q1 tC, .P p7 (.nilck q5) .v, .P p8 (.iaddr (.arr 256 1) q7 q6) .v, .ld p9 q8 .b, .mv p4 q9 .b] (.s .ret)))
def x95 : XFn := ⟨[.v, tC], false, [(.tmp p4)], c95_e⟩
def e95_0 (k t0 t1 h) := kN k [(p0, t0), (p1, (vC t1))] h
def S95_0 (D : CallD) (m : Nat) (t0 : AV) (t1 : Int) (h : HP) : Res2 :=
 nilckC t0 fun t7 =>
 iarC 256 1 t7 (vC t1) fun t8 =>
 ldB t8 h fun t9 =>
 some (.ret (vB t9) h, .no)
def S95 : SFn := fun D m args h u => nou u <| popV args fun t0 args => popI .u8 args fun t1 args => endA args (S95_0 D m t0 t1 h)
theorem T95_0 (hE : FX x95 D m E) : S95_0 D m = e95_0 (E c95_e []) := by unfold S95_0; rw [hE c95_e]; kernel_rfl
theorem X95 : XTie S95 x95 := X_of fun D m E hE args h u => by unfold S95; rw [T95_0 hE]; kernel_rfl
end
end Go.Proofs.YtmoabbfdehaenaaGreatDoor.Sx
