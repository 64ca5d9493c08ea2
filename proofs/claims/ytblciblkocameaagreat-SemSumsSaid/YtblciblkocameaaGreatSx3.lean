/- Functions, printed by a program of ours: their code, what they do, and that it is so. -/
import Derived.Test.YtblciblkocameaaGreatSp
set_option maxRecDepth 8000
set_option linter.unusedVariables false
namespace Go.Proofs.YtblciblkocameaaGreat.Sx
open Go Go.Proofs.YtblciblkocameaaGreat.Ev
set_option linter.unusedSectionVars false
noncomputable section
variable [Rho]
variable {D : CallD} {m : Nat} {E : XE}
/- 195 -/
def v195_0 : List Pos := [p1, p2, p4]
def c195_0 : XC := (.sO [.L p36 (.cells 5 q1) .v, .mv p37 q4 .v, .ss 5 q2 q36, .mv p3 q37 .v] (.s .ret))
def v195_1 : List Pos := [p1, p2, p4]
def c195_1b : XC := (.seq (.seq (.oX [.fa p10 3 q1, .ld p11 q10 tI, .bn p12 .eql q11 (ci 0) .b]) (.cond q12 .skip (.exit 0))) (.block 1 (.seq (.seq (.oX [.mv p13 q4 .v, .P p14 (.lenl q13) tI, .bn p15 .geq q14 (ci 8) .b]) (.cond q15 (.seq (.oX [.L p16 (.cells 5 q1) .v, .cl p17 111 [q16, (ci 5)] .v, .ss 5 q2 q17, .mv p3 (.c .nils) .v]) .ret) .skip)) (.sO [.P p18 (.build [(kI 0), (.str []), (.str []), (.int .u32 (.ofNat 0)), (.int .u64 (.ofNat 0)), .nils, (kI 0), (kI 0)] []) .v, .al p5 (.new [(kI 0), (.str []), (.str []), (.int .u32 (.ofNat 0)), (.int .u64 (.ofNat 0)), .nils, (kI 0), (kI 0)]), .ss 8 q5 q18] (.sO [.L p20 (.cells 5 q1) .v, .cl p21 81 [q20] .v, .mv p19 q21 .v, .P p22 (.ext q19 0) .v, .P p23 (.ext q19 1) .v, .ss 5 q1 q22, .ss 8 q5 q23] (.sO [.mv p24 q4 .v, .L p25 (.cells 8 q5) .v, .al p26 (.bsl [(kI 0), (.str []), (.str []), (.int .u32 (.ofNat 0)), (.int .u64 (.ofNat 0)), .nils, (kI 0), (kI 0)] 1 [⟨0, 8, q25⟩]), .o ⟨(some p27), (.e (.app 8 96 q24 q26)), none, []⟩ .v, .mv p4 q27 .v] (.seq (.seq (.oX [.L p28 (.cells 5 q1) .v, .cl p29 73 [q28, (.c (.str [44]))] .b, .P p30 (.un .not q29) .b]) (.cond q30 (.seq (.oX [.L p31 (.cells 5 q1) .v, .cl p32 79 [q31, (.c (.str [41]))] .v, .mv p33 q4 .v, .ss 5 q2 q32, .mv p3 q33 .v]) .ret) .skip)) (.s (.oX [.L p34 (.cells 5 q1) .v, .cl p35 74 [q34] .v, .ss 5 q1 q35])))))))))
def c195_e : XC := (.sO [.al p1 (.box q0), .al p2 (.new [.nils, (kI 0), (kI 0), (kI 0), (kI 0)]), .mv p3 (.c .nils) .v] (.seq (.seq (.oX [.L p6 (.cells 5 q1) .v, .cl p7 73 [q6, (.c (.str [41]))] .b]) (.cond q7 (.seq (.oX [.L p8 (.cells 5 q1) .v, .cl p9 74 [q8] .v, .ss 5 q2 q9, .mv p3 (.c .nils) .v]) .ret) .skip)) (.sO [.mv p4 (.c .nils) .v] (.sj v195_0 (.block 0 (.loop v195_1 c195_1b)) c195_0))))
def x195 : XFn := ⟨[.v], false, [(.cells 5 p2), (.tmp p3)], c195_e⟩
def e195_0 (k t1 t2 t4 h) := kN k [(p1, t1), (p2, t2), (p4, t4)] h
def S195_0 (D : CallD) (m : Nat) (t1 t2 t4 : AV) (h : HP) : Res2 :=
 cellsC 5 t1 h fun t36 =>
 stsC 5 t2 t36 h fun h8 =>
 cellsC 5 t2 h8 fun t2a =>
 some (.ret (.tup [t2a, t4]) h8, .no)
def e195_1 (k t1 t2 t4 h) := kN k [(p1, t1), (p2, t2), (p4, t4)] h
def S195_1b (D : CallD) (m : Nat) (g1 : AV → AV → AV → HP → Res2) (t1 t2 t4 : AV) (h : HP) : Res2 :=
 faC 3 t1 fun t10 =>
 ldI t10 h fun t11 =>
 let t12 := eqQ t11 (Int.ofNat 0)
 br t12 (
 lenC t4 fun vt14 => asI .i64 vt14 fun t14 =>
 let t15 := leQ (Int.ofNat 8) t14
 br t15 (
 cellsC 5 t1 h fun t16 =>
 cal D 111 [t16, (kI 5)] h fun t17 h9 =>
 stsC 5 t2 t17 h9 fun h10 =>
 cellsC 5 t2 h10 fun t2a =>
 some (.ret (.tup [t2a, (.nils : AV)]) h10, .no)) (
 let t18 := (AV.agg [(kI 0), (vS ([] : LN)), (vS ([] : LN)), (vW (Int.ofNat 0)), (AV.int .u64 (Int.ofNat 0)), (.nils : AV), (kI 0), (kI 0)])
 let t5 := P0 h
 let h11 := nQ h [(kI 0), (.str []), (.str []), (.int .u32 (.ofNat 0)), (.int .u64 (.ofNat 0)), .nils, (kI 0), (kI 0)]
 stsC 8 t5 t18 h11 fun h12 =>
 cellsC 5 t1 h12 fun t20 =>
 cal D 81 [t20] h12 fun t21 h13 =>
 extC t21 0 fun t22 =>
 extC t21 1 fun t23 =>
 stsC 5 t1 t22 h13 fun h14 =>
 stsC 8 t5 t23 h14 fun h15 =>
 cellsC 8 t5 h15 fun t25 =>
 obQ (evA (.bsl [(kI 0), (.str []), (.str []), (.int .u32 (.ofNat 0)), (.int .u64 (.ofNat 0)), .nils, (kI 0), (kI 0)] 1 [⟨0, 8, (.c t25)⟩]) .leaf) fun r16 =>
 let t26 := vkV r16.2 (HP.nxQ h15)
 let h17 := HP.newQ h15 r16.1
 eff (.app 8 96 (.c t4) (.c t26)) h17 fun t27 h18 =>
 cellsC 5 t1 h18 fun t28 =>
 cal D 73 [t28, (vS ([44] : LN))] h18 fun t29 h19 =>
 asB t29 fun t29a =>
 let t30 := !t29a
 br t30 (
 cellsC 5 t1 h19 fun t31 =>
 cal D 79 [t31, (vS ([41] : LN))] h19 fun t32 h20 =>
 stsC 5 t2 t32 h20 fun h21 =>
 cellsC 5 t2 h21 fun t2a =>
 some (.ret (.tup [t2a, t27]) h21, .no)) (
 cellsC 5 t1 h19 fun t34 =>
 cal D 74 [t34] h19 fun t35 h22 =>
 stsC 5 t1 t35 h22 fun h23 =>
 g1 t1 t2 t27 h23))) (
 S195_0 D m t1 t2 t4 h)
def S195_1 (D : CallD) (m : Nat) : AV → AV → AV → HP → Res2 := nrec (fun _ _ _ _ => none) (fun _ g => S195_1b D m g) m
def e195_2 (k t0 h) := kN k [(p0, t0)] h
def S195_2 (D : CallD) (m : Nat) (t0 : AV) (h : HP) : Res2 :=
 let t1 := P0 h
 let h3 := HP.newQ h (.cells true (AV.cells t0))
 let t2 := P0 h3
 let h4 := nQ h3 [.nils, (kI 0), (kI 0), (kI 0), (kI 0)]
 cellsC 5 t1 h4 fun t6 =>
 cal D 73 [t6, (vS ([41] : LN))] h4 fun t7 h5 =>
 asB t7 fun t7a =>
 br t7a (
 cellsC 5 t1 h5 fun t8 =>
 cal D 74 [t8] h5 fun t9 h6 =>
 stsC 5 t2 t9 h6 fun h7 =>
 cellsC 5 t2 h7 fun t2a =>
 some (.ret (.tup [t2a, (.nils : AV)]) h7, .no)) (
 S195_1 D m t1 t2 (.nils : AV) h5)
def S195 : SFn := fun D m args h u => nou u <| popV args fun t0 args => endA args (S195_2 D m t0 h)
theorem T195_0 (hE : FX x195 D m E) : S195_0 D m = e195_0 (E c195_0 []) := by unfold S195_0; rw [hE c195_0]; kernel_rfl
theorem T195_1b (hE : FX x195 D m E) (G1) : S195_1b D m (e195_1 G1) = e195_1 (E c195_1b [.lp v195_1 G1, .blk 0, .sj v195_0 c195_0]) := by unfold S195_1b; rw [T195_0 hE, hE c195_1b]; kernel_rfl
theorem T195_1 (hE : FX x195 D m E) : S195_1 D m = e195_1 (nrec (fun _ => none) (fun _ G1 st => E c195_1b [.lp v195_1 G1, .blk 0, .sj v195_0 c195_0] st) m) :=
  nrec_emb e195_1 (fun _ _ _ _ => none) (fun g => S195_1b D m g) (fun G1 st => E c195_1b [.lp v195_1 G1, .blk 0, .sj v195_0 c195_0] st) rfl (fun g => T195_1b hE g) m
theorem T195_2 (hE : FX x195 D m E) : S195_2 D m = e195_2 (E c195_e []) := by unfold S195_2; rw [T195_1 hE, hE c195_e]; kernel_rfl
theorem X195 : XTie S195 x195 := X_of fun D m E hE args h u => by unfold S195; rw [T195_2 hE]; kernel_rfl
end
end Go.Proofs.YtblciblkocameaaGreat.Sx
