/- Functions, printed by a program of ours: their code, what they do, and that it is so. -/
import Derived.Test.YtblciblkocameaaGreatSp
set_option maxRecDepth 8000
set_option linter.unusedVariables false
namespace Go.Proofs.YtblciblkocameaaGreat.Sx
open Go Go.Proofs.YtblciblkocameaaGreat.Ev
set_option linter.unusedSectionVars false
noncomputable section
variable [Rho]
variable {D : CallD} {m : Nat} {E : XE}
/- 191 -/
def v191_0 : List Pos := [p0, p1, p2, p8, p9]
def c191_0 : XC := (.seq (.seq (.oX [.mv p48 q0 tI]) (.block 2 (.seq (.oX [.bn p50 .eql q48 (ci 14) .b, .mv p49 q50 .b]) (.cond q49 (.seq (.oX [.mv p51 q8 (.i .i32), .mv p52 q9 (.i .i32), .bn p53 .quo q51 q52 (.i .i32), .P p54 (.conv (.ii .u32) q53) tW, .mv p6 q54 tW, .mv p7 (ci 0) tI]) .ret) (.seq (.oX [.bn p56 .eql q48 (ci 15) .b, .mv p55 q56 .b]) (.cond q55 (.seq (.oX [.mv p57 q1 tW, .mv p58 q2 tW, .bn p59 .quo q57 q58 tW, .mv p6 q59 tW, .mv p7 (ci 0) tI]) .ret) (.seq (.oX [.bn p61 .eql q48 (ci 16) .b, .mv p60 q61 .b]) (.cond q60 (.seq (.oX [.mv p62 q8 (.i .i32), .mv p63 q9 (.i .i32), .bn p64 .rem q62 q63 (.i .i32), .P p65 (.conv (.ii .u32) q64) tW, .mv p6 q65 tW, .mv p7 (ci 0) tI]) .ret) (.seq (.oX [.bn p67 .eql q48 (ci 17) .b, .mv p66 q67 .b]) (.cond q66 (.seq (.oX [.mv p68 q1 tW, .mv p69 q2 tW, .bn p70 .rem q68 q69 tW, .mv p6 q70 tW, .mv p7 (ci 0) tI]) .ret) .skip)))))))))) (.sO [.mv p6 (.c (.int .u32 (.ofNat 0))) tW, .mv p7 (ci 1) tI] (.s .ret)))
def v191_1 : List Pos := []
def c191_1 : XC := (.sO [.mv p6 (.c (.int .u32 (.ofNat 0))) tW, .mv p7 (ci 1) tI] (.s .ret))
def v191_3 : List Pos := [p1, p44]
def c191_3 : XC := (.cond q44 (.sO [.mv p47 q1 tW, .mv p6 q47 tW, .mv p7 (ci 0) tI] (.s .ret)) (.s .skip))
def v191_2 : List Pos := [p1, p40, p41]
def c191_2 : XC := (.cond q41 (.sO [.mv p6 (.c (.int .u32 (.ofNat 4294967295))) tW, .mv p7 (ci 0) tI] (.s .ret)) (.sj v191_3 (.sO [.bn p45 .eql q40 (ci 16) .b, .mv p44 q45 .b] (.cond q44 (.s .skip) (.s (.oX [.bn p46 .eql q40 (ci 17) .b, .mv p44 q46 .b])))) c191_3))
def c191_e : XC := (.sO [.mv p6 (.c (.int .u32 (.ofNat 0))) tW, .mv p7 (ci 0) tI] (.sO [.mv p12 q1 tW, .P p13 (.conv (.ii .i32) q12) (.i .i32), .mv p14 q2 tW, .P p15 (.conv (.ii .i32) q14) (.i .i32), .mv p8 q13 (.i .i32), .mv p9 q15 (.i .i32)] (.sO [.mv p17 q1 tW, .mv p18 q2 tW, .cl p19 150 [q17, q18] .v, .mv p16 q19 .v, .P p20 (.ext q16 0) tW, .P p21 (.ext q16 1) tW, .mv p10 q20 tW, .mv p11 q21 tW] (.seq (.seq (.oX [.mv p22 q0 tI]) (.block 0 (.seq (.oX [.bn p24 .eql q22 (ci 11) .b, .mv p23 q24 .b]) (.cond q23 (.seq (.oX [.mv p25 q11 tW, .mv p6 q25 tW, .mv p7 (ci 0) tI]) .ret) (.seq (.oX [.bn p27 .eql q22 (ci 12) .b, .mv p26 q27 .b]) (.cond q26 (.seq (.oX [.mv p28 q8 (.i .i32), .P p29 (.conv (.ii .i64) q28) tI, .mv p30 q9 (.i .i32), .P p31 (.conv (.ii .i64) q30) tI, .bn p32 .mul q29 q31 tI, .bn p33 .shr q32 (.c (.int .u64 (.ofNat 32))) tI, .P p34 (.conv (.ii .u32) q33) tW, .mv p6 q34 tW, .mv p7 (ci 0) tI]) .ret) (.seq (.oX [.bn p36 .eql q22 (ci 13) .b, .mv p35 q36 .b]) (.cond q35 (.seq (.oX [.mv p37 q10 tW, .mv p6 q37 tW, .mv p7 (ci 0) tI]) .ret) .skip)))))))) (.sj v191_0 (.sO [.mv p38 q2 tW, .bn p39 .eql q38 (.c (.int .u32 (.ofNat 0))) .b] (.cond q39 (.sj v191_1 (.sO [.mv p40 q0 tI] (.block 1 (.sj v191_2 (.sO [.bn p42 .eql q40 (ci 14) .b, .mv p41 q42 .b] (.cond q41 (.s .skip) (.s (.oX [.bn p43 .eql q40 (ci 15) .b, .mv p41 q43 .b])))) c191_2))) c191_1) (.s .skip))) c191_0)))))
def x191 : XFn := ⟨[tI, tW, tW], false, [(.tmp p6), (.tmp p7)], c191_e⟩
def e191_0 (k t0 t1 t2 t8 t9 h) := kN k [(p0, (vI t0)), (p1, (vW t1)), (p2, (vW t2)), (p8, (AV.int .i32 t8)), (p9, (AV.int .i32 t9))] h
def S191_0 (D : CallD) (m : Nat) (t0 t1 t2 t8 t9 : Int) (h : HP) : Res2 :=
 let t50 := eqQ t0 (Int.ofNat 14)
 br t50 (
 obI .i32 (intBin .quo .i32 t8 t9) fun t53 =>
 let t54 := wrapF .u32 t53
 some (.ret (.tup [(vW t54), (vI (Int.ofNat 0))]) h, .no)) (
 let t56 := eqQ t0 (Int.ofNat 15)
 br t56 (
 binC .quo (vW t1) (vW t2) fun vt59 => asI .u32 vt59 fun t59 =>
 some (.ret (.tup [(vW t59), (vI (Int.ofNat 0))]) h, .no)) (
 let t61 := eqQ t0 (Int.ofNat 16)
 br t61 (
 obI .i32 (intBin .rem .i32 t8 t9) fun t64 =>
 let t65 := wrapF .u32 t64
 some (.ret (.tup [(vW t65), (vI (Int.ofNat 0))]) h, .no)) (
 let t67 := eqQ t0 (Int.ofNat 17)
 br t67 (
 binC .rem (vW t1) (vW t2) fun vt70 => asI .u32 vt70 fun t70 =>
 some (.ret (.tup [(vW t70), (vI (Int.ofNat 0))]) h, .no)) (
 some (.ret (.tup [(vW (Int.ofNat 0)), (vI (Int.ofNat 1))]) h, .no)))))
def e191_1 (k h) := kN k [] h
def S191_1 (D : CallD) (m : Nat) (h : HP) : Res2 :=
 some (.ret (.tup [(vW (Int.ofNat 0)), (vI (Int.ofNat 1))]) h, .no)
def e191_3 (k t1 t44 h) := kN k [(p1, (vW t1)), (p44, (vB t44))] h
def S191_3 (D : CallD) (m : Nat) (t1 : Int) (t44 : Bool) (h : HP) : Res2 :=
 br t44 (
 some (.ret (.tup [(vW t1), (vI (Int.ofNat 0))]) h, .no)) (
 S191_1 D m h)
def e191_2 (k t1 t40 t41 h) := kN k [(p1, (vW t1)), (p40, (vI t40)), (p41, (vB t41))] h
def S191_2 (D : CallD) (m : Nat) (t1 t40 : Int) (t41 : Bool) (h : HP) : Res2 :=
 br t41 (
 some (.ret (.tup [(vW (Int.ofNat 4294967295)), (vI (Int.ofNat 0))]) h, .no)) (
 let t45 := eqQ t40 (Int.ofNat 16)
 br t45 (
 S191_3 D m t1 t45 h) (
 let t46 := eqQ t40 (Int.ofNat 17)
 S191_3 D m t1 t46 h))
def e191_4 (k t0 t1 t2 h) := kN k [(p0, (vI t0)), (p1, (vW t1)), (p2, (vW t2))] h
def S191_4 (D : CallD) (m : Nat) (t0 t1 t2 : Int) (h : HP) : Res2 :=
 obI .i32 (convV (.ii .i32) (vW t1)) fun t13 =>
 obI .i32 (convV (.ii .i32) (vW t2)) fun t15 =>
 cal D 150 [(vW t1), (vW t2)] h fun t19 h5 =>
 extC t19 0 fun vt20 => asI .u32 vt20 fun t20 =>
 extC t19 1 fun vt21 => asI .u32 vt21 fun t21 =>
 let t24 := eqQ t0 (Int.ofNat 11)
 br t24 (
 some (.ret (.tup [(vW t21), (vI (Int.ofNat 0))]) h5, .no)) (
 let t27 := eqQ t0 (Int.ofNat 12)
 br t27 (
 let t29 := wrapF .i64 t13
 let t31 := wrapF .i64 t15
 let t32 := wrQ .i64 (t29 * t31)
 let t33 := shrF .i64 t32 32
 let t34 := wrapF .u32 t33
 some (.ret (.tup [(vW t34), (vI (Int.ofNat 0))]) h5, .no)) (
 let t36 := eqQ t0 (Int.ofNat 13)
 br t36 (
 some (.ret (.tup [(vW t20), (vI (Int.ofNat 0))]) h5, .no)) (
 binC .eql (vW t2) (vW (Int.ofNat 0)) fun vt39 => asB vt39 fun t39 =>
 br t39 (
 let t42 := eqQ t0 (Int.ofNat 14)
 br t42 (
 S191_2 D m t1 t0 t42 h5) (
 let t43 := eqQ t0 (Int.ofNat 15)
 S191_2 D m t1 t0 t43 h5)) (
 S191_0 D m t0 t1 t2 t13 t15 h5))))
def S191 : SFn := fun D m args h u => nou u <| popI .i64 args fun t0 args => popI .u32 args fun t1 args => popI .u32 args fun t2 args => endA args (S191_4 D m t0 t1 t2 h)
theorem T191_0 (hE : FX x191 D m E) : S191_0 D m = e191_0 (E c191_0 []) := by unfold S191_0; rw [hE c191_0]; kernel_rfl
theorem T191_1 (hE : FX x191 D m E) : S191_1 D m = e191_1 (E c191_1 [.sj v191_0 c191_0]) := by unfold S191_1; rw [hE c191_1]; kernel_rfl
theorem T191_3 (hE : FX x191 D m E) : S191_3 D m = e191_3 (E c191_3 [.blk 1, .sj v191_1 c191_1, .sj v191_0 c191_0]) := by unfold S191_3; rw [T191_1 hE, hE c191_3]; kernel_rfl
theorem T191_2 (hE : FX x191 D m E) : S191_2 D m = e191_2 (E c191_2 [.blk 1, .sj v191_1 c191_1, .sj v191_0 c191_0]) := by unfold S191_2; rw [T191_3 hE, hE c191_2]; kernel_rfl
theorem T191_4 (hE : FX x191 D m E) : S191_4 D m = e191_4 (E c191_e []) := by unfold S191_4; rw [T191_2 hE, T191_0 hE, hE c191_e]; kernel_rfl
theorem X191 : XTie S191 x191 := X_of fun D m E hE args h u => by unfold S191; rw [T191_4 hE]; kernel_rfl
/- 195 -/
def v195_0 : List Pos := [p1, p2, p4]
def c195_0 : XC := (.sO [.L p36 (.cells 5 q1) .v, .mv p37 q4 .v, .ss 5 q2 q36, .mv p3 q37 .v] (.s .ret))
def v195_1 : List Pos := [p1, p2, p4]
def c195_1b : XC := (.seq (.seq (.oX [.fa p10 3 q1, .ld p11 q10 tI, .bn p12 .eql q11 (ci 0) .b]) (.cond q12 .skip (.exit 0))) (.block 1 (.seq (.seq (.oX [.mv p13 q4 .v, .P p14 (.lenl q13) tI, .bn p15 .geq q14 (ci 8) .b]) (.cond q15 (.seq (.oX [.L p16 (.cells 5 q1) .v, .cl p17 111 [q16, (ci 5)] .v, .ss 5 q2 q17, .mv p3 (.c .nils) .v]) .ret) .skip)) (.sO [.P p18 (.build [(kI 0), (.str []), (.str []), (.int .u32 (.ofNat 0)), (.int .u64 (.ofNat 0)), .nils, (kI 0), (kI 0)] []) .v, .al p5 (.new [(kI 0), (.str []), (.str []), (.int .u32 (.ofNat 0)), (.int .u64 (.ofNat 0)), .nils, (kI 0), (kI 0)]), .ss 8 q5 q18] (.sO [.L p20 (.cells 5 q1) .v, .cl p21 81 [q20] .v, .mv p19 q21 .v, .P p22 (.ext q19 0) .v, .P p23 (.ext q19 1) .v, .ss 5 q1 q22, .ss 8 q5 q23] (.sO [.mv p24 q4 .v, .L p25 (.cells 8 q5) .v, .al p26 (.bsl [(kI 0), (.str []), (.str []), (.int .u32 (.ofNat 0)), (.int .u64 (.ofNat 0)), .nils, (kI 0), (kI 0)] 1 [⟨0, 8, q25⟩]), .o ⟨(some p27), (.e (.app 8 96 q24 q26)), none, []⟩ .v, .mv p4 q27 .v] (.seq (.seq (.oX [.L p28 (.cells 5 q1) .v, .cl p29 73 [q28, (.c (.str [44]))] .b, .P p30 (.un .not q29) .b]) (.cond q30 (.seq (.oX [.L p31 (.cells 5 q1) .v, .cl p32 79 [q31, (.c (.str [41]))] .v, .mv p33 q4 .v, .ss 5 q2 q32, .mv p3 q33 .v]) .ret) .skip)) (.s (.oX [.L p34 (.cells 5 q1) .v, .cl p35 74 [q34] .v, .ss 5 q1 q35])))))))))
def c195_e : XC := (.sO [.al p1 (.box q0), .al p2 (.new [.nils, (kI 0), (kI 0), (kI 0), (kI 0)]), .mv p3 (.c .nils) .v] (.seq (.seq (.oX [.L p6 (.cells 5 q1) .v, .cl p7 73 [q6, (.c (.str [41]))] .b]) (.cond q7 (.seq (.oX [.L p8 (.cells 5 q1) .v, .cl p9 74 [q8] .v, .ss 5 q2 q9, .mv p3 (.c .nils) .v]) .ret) .skip)) (.sO [.mv p4 (.c .nils) .v] (.sj v195_0 (.block 0 (.loop v195_1 c195_1b)) c195_0))))
def x195 : XFn := ⟨[.v], false, [(.cells 5 p2), (.tmp p3)], c195_e⟩
def e195_0 (k t1 t2 t4 h) := kN k [(p1, t1), (p2, t2), (p4, t4)] h
def S195_0 (D : CallD) (m : Nat) (t1 t2 t4 : AV) (h : HP) : Res2 :=
 cellsC 5 t1 h fun t36 =>
 stsC 5 t2 t36 h fun h8 =>
 cellsC 5 t2 h8 fun t2a =>
 some (.ret (.tup [t2a, t4]) h8, .no)
def e195_1 (k t1 t2 t4 h) := kN k [(p1, t1), (p2, t2), (p4, t4)] h
def S195_1b (D : CallD) (m : Nat) (g1 : AV → AV → AV → HP → Res2) (t1 t2 t4 : AV) (h : HP) : Res2 :=
 faC 3 t1 fun t10 =>
 ldI t10 h fun t11 =>
 let t12 := eqQ t11 (Int.ofNat 0)
 br t12 (
 lenC t4 fun vt14 => asI .i64 vt14 fun t14 =>
 let t15 := leQ (Int.ofNat 8) t14
 br t15 (
 cellsC 5 t1 h fun t16 =>
 cal D 111 [t16, (vI (Int.ofNat 5))] h fun t17 h9 =>
 stsC 5 t2 t17 h9 fun h10 =>
 cellsC 5 t2 h10 fun t2a =>
 some (.ret (.tup [t2a, (.nils : AV)]) h10, .no)) (
 let t18 := (AV.agg [(vI (Int.ofNat 0)), (vS ([] : LN)), (vS ([] : LN)), (vW (Int.ofNat 0)), (AV.int .u64 (Int.ofNat 0)), (.nils : AV), (vI (Int.ofNat 0)), (vI (Int.ofNat 0))])
 let t5 := AV.ptr (HP.nxQ h) 0
 let h11 := HP.newQ h (.cells true [(kI 0), (.str []), (.str []), (.int .u32 (.ofNat 0)), (.int .u64 (.ofNat 0)), .nils, (kI 0), (kI 0)])
 stsC 8 t5 t18 h11 fun h12 =>
 cellsC 5 t1 h12 fun t20 =>
 cal D 81 [t20] h12 fun t21 h13 =>
 extC t21 0 fun t22 =>
 extC t21 1 fun t23 =>
 stsC 5 t1 t22 h13 fun h14 =>
 stsC 8 t5 t23 h14 fun h15 =>
 cellsC 8 t5 h15 fun t25 =>
 obQ (evA (.bsl [(kI 0), (.str []), (.str []), (.int .u32 (.ofNat 0)), (.int .u64 (.ofNat 0)), .nils, (kI 0), (kI 0)] 1 [⟨0, 8, (.c t25)⟩]) .leaf) fun r16 =>
 let t26 := vkV r16.2 (HP.nxQ h15)
 let h17 := HP.newQ h15 r16.1
 eff (.app 8 96 (.c t4) (.c t26)) h17 fun t27 h18 =>
 cellsC 5 t1 h18 fun t28 =>
 cal D 73 [t28, (vS ([44] : LN))] h18 fun t29 h19 =>
 asB t29 fun t29a =>
 let t30 := !t29a
 br t30 (
 cellsC 5 t1 h19 fun t31 =>
 cal D 79 [t31, (vS ([41] : LN))] h19 fun t32 h20 =>
 stsC 5 t2 t32 h20 fun h21 =>
 cellsC 5 t2 h21 fun t2a =>
 some (.ret (.tup [t2a, t27]) h21, .no)) (
 cellsC 5 t1 h19 fun t34 =>
 cal D 74 [t34] h19 fun t35 h22 =>
 stsC 5 t1 t35 h22 fun h23 =>
 g1 t1 t2 t27 h23))) (
 S195_0 D m t1 t2 t4 h)
def S195_1 (D : CallD) (m : Nat) : AV → AV → AV → HP → Res2 := nrec (fun _ _ _ _ => none) (fun _ g => S195_1b D m g) m
def e195_2 (k t0 h) := kN k [(p0, t0)] h
def S195_2 (D : CallD) (m : Nat) (t0 : AV) (h : HP) : Res2 :=
 let t1 := AV.ptr (HP.nxQ h) 0
 let h3 := HP.newQ h (.cells true (AV.cells t0))
 let t2 := AV.ptr (HP.nxQ h3) 0
 let h4 := HP.newQ h3 (.cells true [.nils, (kI 0), (kI 0), (kI 0), (kI 0)])
 cellsC 5 t1 h4 fun t6 =>
 cal D 73 [t6, (vS ([41] : LN))] h4 fun t7 h5 =>
 asB t7 fun t7a =>
 br t7a (
 cellsC 5 t1 h5 fun t8 =>
 cal D 74 [t8] h5 fun t9 h6 =>
 stsC 5 t2 t9 h6 fun h7 =>
 cellsC 5 t2 h7 fun t2a =>
 some (.ret (.tup [t2a, (.nils : AV)]) h7, .no)) (
 S195_1 D m t1 t2 (.nils : AV) h5)
def S195 : SFn := fun D m args h u => nou u <| popV args fun t0 args => endA args (S195_2 D m t0 h)
theorem T195_0 (hE : FX x195 D m E) : S195_0 D m = e195_0 (E c195_0 []) := by unfold S195_0; rw [hE c195_0]; kernel_rfl
theorem T195_1b (hE : FX x195 D m E) (G1) : S195_1b D m (e195_1 G1) = e195_1 (E c195_1b [.lp v195_1 G1, .blk 0, .sj v195_0 c195_0]) := by unfold S195_1b; rw [T195_0 hE, hE c195_1b]; kernel_rfl
theorem T195_1 (hE : FX x195 D m E) : S195_1 D m = e195_1 (nrec (fun _ => none) (fun _ G1 st => E c195_1b [.lp v195_1 G1, .blk 0, .sj v195_0 c195_0] st) m) :=
  nrec_emb e195_1 (fun _ _ _ _ => none) (fun g => S195_1b D m g) (fun G1 st => E c195_1b [.lp v195_1 G1, .blk 0, .sj v195_0 c195_0] st) rfl (fun g => T195_1b hE g) m
theorem T195_2 (hE : FX x195 D m E) : S195_2 D m = e195_2 (E c195_e []) := by unfold S195_2; rw [T195_1 hE, hE c195_e]; kernel_rfl
theorem X195 : XTie S195 x195 := X_of fun D m E hE args h u => by unfold S195; rw [T195_2 hE]; kernel_rfl
end
end Go.Proofs.YtblciblkocameaaGreat.Sx
