/- Functions, printed by a program of ours: their code, what they do, and that it is so. -/
import Derived.Test.YtbfdhoggchedjaaGreatDoorSp
set_option maxRecDepth 8000
set_option linter.unusedVariables false
namespace Go.Proofs.YtbfdhoggchedjaaGreatDoor.Sx
open Go Go.Proofs.YtbfdhoggchedjaaGreatDoor.Ev
set_option linter.unusedSectionVars false
noncomputable section
variable [Rho]
variable {D : CallD} {m : Nat} {E : XE}
/- 4 -/
def c4_6 : XC := (.s .ret)
def l4_5 : XL := (XL.of [.mv p2 q128 .b])
def l4_4 : XL := (XL.pre [.mv p120 q119 .b, .sp p120, .G p120 true p121 (.mov q0) (.i .u64), .o ⟨(some p122), (.call (.fn 16) [(ci 45), q121, (.c (.int .u64 (.ofNat 0)))]), (some (p120, true)), []⟩ (.i .u64), .G p120 true p123 (.mov q4) (.i .u64), .G p120 true p124 (.bin .eql q122 q123) .b, .G p120 true p125 (.mov q4) (.i .u64), .G p120 true p126 (.bin .neq q125 (.c (.int .u64 (.ofNat 9223372036854775808)))) .b, .G p120 true p127 (.eqb false q124 q126) .b, .P p128 (.pick q120 q127 (cb false)) .b, .jn p120 [p128]] l4_5)
def l4_3 : XL := (XL.pre [.mv p114 q113 .b, .sp p114, .G p114 true p115 (.mov q0) (.i .u64), .o ⟨(some p116), (.call (.fn 16) [(ci 47), q115, (.c (.int .u64 (.ofNat 4607182418800017408)))]), (some (p114, true)), []⟩ (.i .u64), .G p114 true p117 (.mov q4) (.i .u64), .G p114 true p118 (.bin .eql q116 q117) .b, .P p119 (.pick q114 q118 (cb false)) .b, .jn p114 [p0, p4, p119]] l4_4)
def v4_2 : List Pos := [p0, p4]
def c4_2 : XC := (.sO [.mv p99 q4 (.i .u64), .bn p100 .and q99 (.c (.int .u64 (.ofNat 9218868437227405312))) (.i .u64), .bn p101 .neq q100 (.c (.int .u64 (.ofNat 9218868437227405312))) .b, .mv p7 q101 .b] (.opq false (XL.pre [.mv p102 q0 (.i .u64), .mv p103 q0 (.i .u64), .cl p104 16 [(ci 46), q102, q103] (.i .u64), .bn p105 .eql q104 (.c (.int .u64 (.ofNat 0))) .b, .mv p106 q7 .b, .P p107 (.eqb false q105 q106) .b, .mv p108 q107 .b, .sp p108, .G p108 true p109 (.mov q0) (.i .u64), .o ⟨(some p110), (.call (.fn 16) [(ci 45), q109, (.c (.int .u64 (.ofNat 9223372036854775808)))]), (some (p108, true)), []⟩ (.i .u64), .G p108 true p111 (.mov q4) (.i .u64), .G p108 true p112 (.bin .eql q110 q111) .b, .P p113 (.pick q108 q112 (cb false)) .b, .jn p108 [p0, p4, p113]] l4_3) c4_6))
def c4_15 : XC := (.cond q98 (.sO [.mv p2 (cb false) .b] (.s .ret)) (.s .skip))
def l4_14 : XL := (XL.of [])
def l4_13 : XL := (XL.pre [.mv p95 q94 .b, .sp p95, .o ⟨(some p96), (.call (.fn 16) [(ci 45), (.c (.int .u64 (.ofNat 0))), (.c (.int .u64 (.ofNat 9223372036854775808)))]), (some (p95, false)), []⟩ (.i .u64), .G p95 false p97 (.bin .neq q96 (.c (.int .u64 (.ofNat 0)))) .b, .P p98 (.pick q95 (cb true) q97) .b, .jn p95 [p0, p4, p98]] l4_14)
def l4_12 : XL := (XL.pre [.mv p91 q90 .b, .sp p91, .o ⟨(some p92), (.call (.fn 16) [(ci 45), (.c (.int .u64 (.ofNat 9223372036854775808))), (.c (.int .u64 (.ofNat 9223372036854775808)))]), (some (p91, false)), []⟩ (.i .u64), .G p91 false p93 (.bin .neq q92 (.c (.int .u64 (.ofNat 9223372036854775808)))) .b, .P p94 (.pick q91 (cb true) q93) .b, .jn p91 [p0, p4, p94]] l4_13)
def l4_11 : XL := (XL.pre [.mv p86 q85 .b, .sp p86, .o ⟨(some p87), (.call (.fn 16) [(ci 48), (.c (.int .u64 (.ofNat 9223372036854775808))), (.c (.int .u64 (.ofNat 0)))]), (some (p86, false)), []⟩ (.i .u64), .G p86 false p88 (.mov q3) (.i .u64), .G p86 false p89 (.bin .neq q87 q88) .b, .P p90 (.pick q86 (cb true) q89) .b, .jn p86 [p0, p4, p90]] l4_12)
def l4_10 : XL := (XL.pre [.mv p81 q80 .b, .sp p81, .o ⟨(some p82), (.call (.fn 16) [(ci 46), (.c (.int .u64 (.ofNat 9218868437227405312))), (.c (.int .u64 (.ofNat 9218868437227405312)))]), (some (p81, false)), []⟩ (.i .u64), .G p81 false p83 (.mov q3) (.i .u64), .G p81 false p84 (.bin .neq q82 q83) .b, .P p85 (.pick q81 (cb true) q84) .b, .jn p81 [p0, p3, p4, p85]] l4_11)
def l4_9 : XL := (XL.pre [.mv p76 q75 .b, .sp p76, .o ⟨(some p77), (.call (.fn 16) [(ci 47), (.c (.int .u64 (.ofNat 0))), (.c (.int .u64 (.ofNat 9218868437227405312)))]), (some (p76, false)), []⟩ (.i .u64), .G p76 false p78 (.mov q3) (.i .u64), .G p76 false p79 (.bin .neq q77 q78) .b, .P p80 (.pick q76 (cb true) q79) .b, .jn p76 [p0, p3, p4, p80]] l4_10)
def l4_8 : XL := (XL.pre [.mv p72 q71 .b, .sp p72, .o ⟨(some p73), (.call (.fn 16) [(ci 48), (.c (.int .u64 (.ofNat 4607182418800017408))), (.c (.int .u64 (.ofNat 9223372036854775808)))]), (some (p72, false)), []⟩ (.i .u64), .G p72 false p74 (.bin .neq q73 (.c (.int .u64 (.ofNat 18442240474082181120)))) .b, .P p75 (.pick q72 (cb true) q74) .b, .jn p72 [p0, p3, p4, p75]] l4_9)
def l4_7 : XL := (XL.pre [.mv p68 q67 .b, .sp p68, .o ⟨(some p69), (.call (.fn 16) [(ci 48), (.c (.int .u64 (.ofNat 4607182418800017408))), (.c (.int .u64 (.ofNat 0)))]), (some (p68, false)), []⟩ (.i .u64), .G p68 false p70 (.bin .neq q69 (.c (.int .u64 (.ofNat 9218868437227405312)))) .b, .P p71 (.pick q68 (cb true) q70) .b, .jn p68 [p0, p3, p4, p71]] l4_8)
def v4_1 : List Pos := [p0, p3, p4]
def c4_1 : XC := (.sj v4_2 (.opq false (XL.pre [.cl p63 17 [(ci 51), (.c (.int .u64 (.ofNat 0))), (.c (.int .u64 (.ofNat 9223372036854775808)))] .b, .P p64 (.un .not q63) .b, .mv p65 q64 .b, .sp p65, .o ⟨(some p66), (.call (.fn 17) [(ci 52), (.c (.int .u64 (.ofNat 9223372036854775808))), (.c (.int .u64 (.ofNat 0)))]), (some (p65, false)), []⟩ .b, .P p67 (.pick q65 (cb true) q66) .b, .jn p65 [p0, p3, p4, p67]] l4_7) c4_15) c4_2)
def c4_21 : XC := (.cond q62 (.sO [.mv p2 (cb false) .b] (.s .ret)) (.s .skip))
def l4_20 : XL := (XL.of [])
def l4_19 : XL := (XL.pre [.mv p58 q57 .b, .sp p58, .G p58 false p59 (.mov q0) (.i .u64), .G p58 false p60 (.mov q0) (.i .u64), .o ⟨(some p61), (.call (.fn 17) [(ci 52), q59, q60]), (some (p58, false)), []⟩ .b, .P p62 (.pick q58 (cb true) q61) .b, .jn p58 [p0, p3, p4, p62]] l4_20)
def l4_18 : XL := (XL.pre [.mv p49 q48 .b, .sp p49, .G p49 false p50 (.mov q0) (.i .u64), .G p49 false p51 (.mov q0) (.i .u64), .o ⟨(some p52), (.call (.fn 17) [(ci 51), q50, q51]), (some (p49, false)), []⟩ .b, .G p49 false p53 (.mov q4) (.i .u64), .G p49 false p54 (.mov q3) (.i .u64), .G p49 false p55 (.bin .neq q53 q54) .b, .G p49 false p56 (.eqb true q52 q55) .b, .P p57 (.pick q49 (cb true) q56) .b, .jn p49 [p0, p3, p4, p57]] l4_19)
def l4_17 : XL := (XL.pre [.mv p44 q43 .b, .sp p44, .G p44 false p45 (.mov q3) (.i .u64), .G p44 false p46 (.mov q0) (.i .u64), .o ⟨(some p47), (.call (.fn 17) [(ci 53), q45, q46]), (some (p44, false)), []⟩ .b, .P p48 (.pick q44 (cb true) q47) .b, .jn p44 [p0, p3, p4, p48]] l4_18)
def l4_16 : XL := (XL.pre [.mv p39 q38 .b, .sp p39, .G p39 false p40 (.mov q0) (.i .u64), .G p39 false p41 (.mov q3) (.i .u64), .o ⟨(some p42), (.call (.fn 17) [(ci 52), q40, q41]), (some (p39, false)), []⟩ .b, .P p43 (.pick q39 (cb true) q42) .b, .jn p39 [p0, p3, p4, p43]] l4_17)
def v4_0 : List Pos := [p0, p3, p4]
def c4_0 : XC := (.sj v4_1 (.opq false (XL.pre [.mv p31 q3 (.i .u64), .mv p32 q0 (.i .u64), .cl p33 17 [(ci 51), q31, q32] .b, .mv p34 q33 .b, .sp p34, .G p34 false p35 (.mov q0) (.i .u64), .G p34 false p36 (.mov q3) (.i .u64), .o ⟨(some p37), (.call (.fn 17) [(ci 51), q35, q36]), (some (p34, false)), []⟩ .b, .P p38 (.pick q34 (cb true) q37) .b, .jn p34 [p0, p3, p4, p38]] l4_16) c4_21) c4_1)
def v4_23 : List Pos := [p0, p3, p4, p12, p13]
def c4_23 : XC := (.s (.oX [.bn p30 .add q13 (ci 1) tI, .mv p13 q30 tI]))
def c4_25 : XC := (.cond q29 (.sO [.mv p2 (cb false) .b] (.s .ret)) (.s .skip))
def l4_24 : XL := (XL.of [])
def v4_22 : List Pos := [p0, p3, p4, p12, p13]
def c4_22b : XC := (.sO [.bn p14 .lss q13 (ci 4) .b] (.seq (.cond q14 .skip (.exit 0)) (.sj v4_23 (.block 1 (.sO [.P p15 (.idxa 4 1 false q12 q13) tI, .mv p6 q15 tI] (.opq false (XL.pre [.mv p16 q6 tI, .mv p17 q0 (.i .u64), .mv p18 q3 (.i .u64), .cl p19 16 [q16, q17, q18] (.i .u64), .mv p20 q3 (.i .u64), .bn p21 .neq q19 q20 .b, .mv p22 q21 .b, .sp p22, .G p22 false p23 (.mov q6) tI, .G p22 false p24 (.mov q3) (.i .u64), .G p22 false p25 (.mov q0) (.i .u64), .o ⟨(some p26), (.call (.fn 16) [q23, q24, q25]), (some (p22, false)), []⟩ (.i .u64), .G p22 false p27 (.mov q3) (.i .u64), .G p22 false p28 (.bin .neq q26 q27) .b, .P p29 (.pick q22 (cb true) q28) .b, .jn p22 [p0, p3, p4, p12, p13, p29]] l4_24) c4_25))) c4_23)))
def c4_e : XC := (.sO [.mv p2 (cb false) .b] (.seq (.seq (.oX [.cl p8 10 [] .b, .P p9 (.un .not q8) .b]) (.cond q9 (.seq (.oX [.mv p2 (cb false) .b]) .ret) .skip)) (.sO [.mv p3 (.c (.int .u64 (.ofNat 9221120237041090560))) (.i .u64)] (.sO [.mv p10 q0 (.i .u64), .cl p11 15 [q10] (.i .u64), .mv p4 q11 (.i .u64)] (.sj v4_0 (.sO [.P p12 (.build [(kI 0), (kI 0), (kI 0), (kI 0)] [⟨0, 1, (ci 45)⟩, ⟨1, 1, (ci 46)⟩, ⟨2, 1, (ci 47)⟩, ⟨3, 1, (ci 48)⟩]) .v, .mv p13 (ci 0) tI] (.block 0 (.loop v4_22 c4_22b))) c4_0)))))
def x4 : XFn := ⟨[(.i .u64)], false, [(.tmp p2)], c4_e⟩
def e4_5 (k t128 h) := kN k [(p128, (vB t128))] h
def S4_5 (D : CallD) (m : Nat) (t128 : Bool) (h : HP) : Res2 :=
 some (.ret (vB t128) h, .no)
def e4_4 (k t0 t4 t119 h) := kN k [(p0, (AV.int .u64 t0)), (p4, (AV.int .u64 t4)), (p119, (vB t119))] h
def S4_4 (D : CallD) (m : Nat) (t0 t4 : Int) (t119 : Bool) (h : HP) : Res2 :=
 br t119 (
 cal D 16 [(vI (Int.ofNat 45)), (AV.int .u64 t0), (AV.int .u64 (Int.ofNat 0))] h fun t122 h32 =>
 asI .u64 t122 fun t122a =>
 let t124 := eqQ t122a t4
 let t126 := notQ (eqQ t4 (Int.ofNat 9223372036854775808))
 let t127 := ((t124 == t126) != false)
 S4_5 D m t127 h32) (
 S4_5 D m false h)
def e4_3 (k t0 t4 t113 h) := kN k [(p0, (AV.int .u64 t0)), (p4, (AV.int .u64 t4)), (p113, (vB t113))] h
def S4_3 (D : CallD) (m : Nat) (t0 t4 : Int) (t113 : Bool) (h : HP) : Res2 :=
 br t113 (
 cal D 16 [(vI (Int.ofNat 47)), (AV.int .u64 t0), (AV.int .u64 (Int.ofNat 4607182418800017408))] h fun t116 h31 =>
 asI .u64 t116 fun t116a =>
 let t118 := eqQ t116a t4
 S4_4 D m t0 t4 t118 h31) (
 S4_4 D m t0 t4 false h)
def e4_2 (k t0 t4 h) := kN k [(p0, (AV.int .u64 t0)), (p4, (AV.int .u64 t4))] h
def S4_2 (D : CallD) (m : Nat) (t0 t4 : Int) (h : HP) : Res2 :=
 obI .u64 (intBin .and .u64 t4 (Int.ofNat 9218868437227405312)) fun t100 =>
 let t101 := notQ (eqQ t100 (Int.ofNat 9218868437227405312))
 cal D 16 [(vI (Int.ofNat 46)), (AV.int .u64 t0), (AV.int .u64 t0)] h fun t104 h29 =>
 asI .u64 t104 fun t104a =>
 let t105 := eqQ t104a (Int.ofNat 0)
 let t107 := ((t105 == t101) != false)
 br t107 (
 cal D 16 [(vI (Int.ofNat 45)), (AV.int .u64 t0), (AV.int .u64 (Int.ofNat 9223372036854775808))] h29 fun t110 h30 =>
 asI .u64 t110 fun t110a =>
 let t112 := eqQ t110a t4
 S4_3 D m t0 t4 t112 h30) (
 S4_3 D m t0 t4 false h29)
def e4_14 (k t0 t4 t98 h) := kN k [(p0, (AV.int .u64 t0)), (p4, (AV.int .u64 t4)), (p98, (vB t98))] h
def S4_14 (D : CallD) (m : Nat) (t0 t4 : Int) (t98 : Bool) (h : HP) : Res2 :=
 br t98 (
 some (.ret (vB false) h, .no)) (
 S4_2 D m t0 t4 h)
def e4_13 (k t0 t4 t94 h) := kN k [(p0, (AV.int .u64 t0)), (p4, (AV.int .u64 t4)), (p94, (vB t94))] h
def S4_13 (D : CallD) (m : Nat) (t0 t4 : Int) (t94 : Bool) (h : HP) : Res2 :=
 br t94 (
 S4_14 D m t0 t4 true h) (
 cal D 16 [(vI (Int.ofNat 45)), (AV.int .u64 (Int.ofNat 0)), (AV.int .u64 (Int.ofNat 9223372036854775808))] h fun t96 h34 =>
 asI .u64 t96 fun t96a =>
 let t97 := notQ (eqQ t96a (Int.ofNat 0))
 S4_14 D m t0 t4 t97 h34)
def e4_12 (k t0 t4 t90 h) := kN k [(p0, (AV.int .u64 t0)), (p4, (AV.int .u64 t4)), (p90, (vB t90))] h
def S4_12 (D : CallD) (m : Nat) (t0 t4 : Int) (t90 : Bool) (h : HP) : Res2 :=
 br t90 (
 S4_13 D m t0 t4 true h) (
 cal D 16 [(vI (Int.ofNat 45)), (AV.int .u64 (Int.ofNat 9223372036854775808)), (AV.int .u64 (Int.ofNat 9223372036854775808))] h fun t92 h35 =>
 asI .u64 t92 fun t92a =>
 let t93 := notQ (eqQ t92a (Int.ofNat 9223372036854775808))
 S4_13 D m t0 t4 t93 h35)
def e4_11 (k t0 t3 t4 t85 h) := kN k [(p0, (AV.int .u64 t0)), (p3, (AV.int .u64 t3)), (p4, (AV.int .u64 t4)), (p85, (vB t85))] h
def S4_11 (D : CallD) (m : Nat) (t0 t3 t4 : Int) (t85 : Bool) (h : HP) : Res2 :=
 br t85 (
 S4_12 D m t0 t4 true h) (
 cal D 16 [(vI (Int.ofNat 48)), (AV.int .u64 (Int.ofNat 9223372036854775808)), (AV.int .u64 (Int.ofNat 0))] h fun t87 h36 =>
 asI .u64 t87 fun t87a =>
 let t89 := notQ (eqQ t87a t3)
 S4_12 D m t0 t4 t89 h36)
def e4_10 (k t0 t3 t4 t80 h) := kN k [(p0, (AV.int .u64 t0)), (p3, (AV.int .u64 t3)), (p4, (AV.int .u64 t4)), (p80, (vB t80))] h
def S4_10 (D : CallD) (m : Nat) (t0 t3 t4 : Int) (t80 : Bool) (h : HP) : Res2 :=
 br t80 (
 S4_11 D m t0 t3 t4 true h) (
 cal D 16 [(vI (Int.ofNat 46)), (AV.int .u64 (Int.ofNat 9218868437227405312)), (AV.int .u64 (Int.ofNat 9218868437227405312))] h fun t82 h37 =>
 asI .u64 t82 fun t82a =>
 let t84 := notQ (eqQ t82a t3)
 S4_11 D m t0 t3 t4 t84 h37)
def e4_9 (k t0 t3 t4 t75 h) := kN k [(p0, (AV.int .u64 t0)), (p3, (AV.int .u64 t3)), (p4, (AV.int .u64 t4)), (p75, (vB t75))] h
def S4_9 (D : CallD) (m : Nat) (t0 t3 t4 : Int) (t75 : Bool) (h : HP) : Res2 :=
 br t75 (
 S4_10 D m t0 t3 t4 true h) (
 cal D 16 [(vI (Int.ofNat 47)), (AV.int .u64 (Int.ofNat 0)), (AV.int .u64 (Int.ofNat 9218868437227405312))] h fun t77 h38 =>
 asI .u64 t77 fun t77a =>
 let t79 := notQ (eqQ t77a t3)
 S4_10 D m t0 t3 t4 t79 h38)
def e4_8 (k t0 t3 t4 t71 h) := kN k [(p0, (AV.int .u64 t0)), (p3, (AV.int .u64 t3)), (p4, (AV.int .u64 t4)), (p71, (vB t71))] h
def S4_8 (D : CallD) (m : Nat) (t0 t3 t4 : Int) (t71 : Bool) (h : HP) : Res2 :=
 br t71 (
 S4_9 D m t0 t3 t4 true h) (
 cal D 16 [(vI (Int.ofNat 48)), (AV.int .u64 (Int.ofNat 4607182418800017408)), (AV.int .u64 (Int.ofNat 9223372036854775808))] h fun t73 h39 =>
 asI .u64 t73 fun t73a =>
 let t74 := notQ (eqQ t73a (Int.ofNat 18442240474082181120))
 S4_9 D m t0 t3 t4 t74 h39)
def e4_7 (k t0 t3 t4 t67 h) := kN k [(p0, (AV.int .u64 t0)), (p3, (AV.int .u64 t3)), (p4, (AV.int .u64 t4)), (p67, (vB t67))] h
def S4_7 (D : CallD) (m : Nat) (t0 t3 t4 : Int) (t67 : Bool) (h : HP) : Res2 :=
 br t67 (
 S4_8 D m t0 t3 t4 true h) (
 cal D 16 [(vI (Int.ofNat 48)), (AV.int .u64 (Int.ofNat 4607182418800017408)), (AV.int .u64 (Int.ofNat 0))] h fun t69 h40 =>
 asI .u64 t69 fun t69a =>
 let t70 := notQ (eqQ t69a (Int.ofNat 9218868437227405312))
 S4_8 D m t0 t3 t4 t70 h40)
def e4_1 (k t0 t3 t4 h) := kN k [(p0, (AV.int .u64 t0)), (p3, (AV.int .u64 t3)), (p4, (AV.int .u64 t4))] h
def S4_1 (D : CallD) (m : Nat) (t0 t3 t4 : Int) (h : HP) : Res2 :=
 cal D 17 [(vI (Int.ofNat 51)), (AV.int .u64 (Int.ofNat 0)), (AV.int .u64 (Int.ofNat 9223372036854775808))] h fun t63 h33 =>
 asB t63 fun t63a =>
 let t64 := !t63a
 br t64 (
 S4_7 D m t0 t3 t4 true h33) (
 cal D 17 [(vI (Int.ofNat 52)), (AV.int .u64 (Int.ofNat 9223372036854775808)), (AV.int .u64 (Int.ofNat 0))] h33 fun t66 h41 =>
 asB t66 fun t66a =>
 S4_7 D m t0 t3 t4 t66a h41)
def e4_20 (k t0 t3 t4 t62 h) := kN k [(p0, (AV.int .u64 t0)), (p3, (AV.int .u64 t3)), (p4, (AV.int .u64 t4)), (p62, (vB t62))] h
def S4_20 (D : CallD) (m : Nat) (t0 t3 t4 : Int) (t62 : Bool) (h : HP) : Res2 :=
 br t62 (
 some (.ret (vB false) h, .no)) (
 S4_1 D m t0 t3 t4 h)
def e4_19 (k t0 t3 t4 t57 h) := kN k [(p0, (AV.int .u64 t0)), (p3, (AV.int .u64 t3)), (p4, (AV.int .u64 t4)), (p57, (vB t57))] h
def S4_19 (D : CallD) (m : Nat) (t0 t3 t4 : Int) (t57 : Bool) (h : HP) : Res2 :=
 br t57 (
 S4_20 D m t0 t3 t4 true h) (
 cal D 17 [(vI (Int.ofNat 52)), (AV.int .u64 t0), (AV.int .u64 t0)] h fun t61 h43 =>
 asB t61 fun t61a =>
 S4_20 D m t0 t3 t4 t61a h43)
def e4_18 (k t0 t3 t4 t48 h) := kN k [(p0, (AV.int .u64 t0)), (p3, (AV.int .u64 t3)), (p4, (AV.int .u64 t4)), (p48, (vB t48))] h
def S4_18 (D : CallD) (m : Nat) (t0 t3 t4 : Int) (t48 : Bool) (h : HP) : Res2 :=
 br t48 (
 S4_19 D m t0 t3 t4 true h) (
 cal D 17 [(vI (Int.ofNat 51)), (AV.int .u64 t0), (AV.int .u64 t0)] h fun t52 h44 =>
 asB t52 fun t52a =>
 let t55 := notQ (eqQ t4 t3)
 let t56 := ((t52a == t55) != true)
 S4_19 D m t0 t3 t4 t56 h44)
def e4_17 (k t0 t3 t4 t43 h) := kN k [(p0, (AV.int .u64 t0)), (p3, (AV.int .u64 t3)), (p4, (AV.int .u64 t4)), (p43, (vB t43))] h
def S4_17 (D : CallD) (m : Nat) (t0 t3 t4 : Int) (t43 : Bool) (h : HP) : Res2 :=
 br t43 (
 S4_18 D m t0 t3 t4 true h) (
 cal D 17 [(vI (Int.ofNat 53)), (AV.int .u64 t3), (AV.int .u64 t0)] h fun t47 h45 =>
 asB t47 fun t47a =>
 S4_18 D m t0 t3 t4 t47a h45)
def e4_16 (k t0 t3 t4 t38 h) := kN k [(p0, (AV.int .u64 t0)), (p3, (AV.int .u64 t3)), (p4, (AV.int .u64 t4)), (p38, (vB t38))] h
def S4_16 (D : CallD) (m : Nat) (t0 t3 t4 : Int) (t38 : Bool) (h : HP) : Res2 :=
 br t38 (
 S4_17 D m t0 t3 t4 true h) (
 cal D 17 [(vI (Int.ofNat 52)), (AV.int .u64 t0), (AV.int .u64 t3)] h fun t42 h46 =>
 asB t42 fun t42a =>
 S4_17 D m t0 t3 t4 t42a h46)
def e4_0 (k t0 t3 t4 h) := kN k [(p0, (AV.int .u64 t0)), (p3, (AV.int .u64 t3)), (p4, (AV.int .u64 t4))] h
def S4_0 (D : CallD) (m : Nat) (t0 t3 t4 : Int) (h : HP) : Res2 :=
 cal D 17 [(vI (Int.ofNat 51)), (AV.int .u64 t3), (AV.int .u64 t0)] h fun t33 h42 =>
 asB t33 fun t33a =>
 br t33a (
 S4_16 D m t0 t3 t4 true h42) (
 cal D 17 [(vI (Int.ofNat 51)), (AV.int .u64 t0), (AV.int .u64 t3)] h42 fun t37 h47 =>
 asB t37 fun t37a =>
 S4_16 D m t0 t3 t4 t37a h47)
def e4_23 (k t0 t3 t4 t12 t13 h) := kN k [(p0, (AV.int .u64 t0)), (p3, (AV.int .u64 t3)), (p4, (AV.int .u64 t4)), (p12, t12), (p13, (vI t13))] h
def S4_23 (D : CallD) (m : Nat) (g22 : Int → Int → Int → AV → Int → HP → Res2) (t0 t3 t4 : Int) (t12 : AV) (t13 : Int) (h : HP) : Res2 :=
 let t30 := wrQ .i64 (addQ t13 (Int.ofNat 1))
 g22 t0 t3 t4 t12 t30 h
def e4_24 (k t0 t3 t4 t12 t13 t29 h) := kN k [(p0, (AV.int .u64 t0)), (p3, (AV.int .u64 t3)), (p4, (AV.int .u64 t4)), (p12, t12), (p13, (vI t13)), (p29, (vB t29))] h
def S4_24 (D : CallD) (m : Nat) (g22 : Int → Int → Int → AV → Int → HP → Res2) (t0 t3 t4 : Int) (t12 : AV) (t13 : Int) (t29 : Bool) (h : HP) : Res2 :=
 br t29 (
 some (.ret (vB false) h, .no)) (
 S4_23 D m g22 t0 t3 t4 t12 t13 h)
def e4_22 (k t0 t3 t4 t12 t13 h) := kN k [(p0, (AV.int .u64 t0)), (p3, (AV.int .u64 t3)), (p4, (AV.int .u64 t4)), (p12, t12), (p13, (vI t13))] h
def S4_22b (D : CallD) (m : Nat) (g22 : Int → Int → Int → AV → Int → HP → Res2) (t0 t3 t4 : Int) (t12 : AV) (t13 : Int) (h : HP) : Res2 :=
 let t14 := ltQ t13 (Int.ofNat 4)
 br t14 (
 obI .i64 (evP (.idxa 4 1 false (.c t12) (.c (vI t13))) .leaf) fun t15 =>
 cal D 16 [(vI t15), (AV.int .u64 t0), (AV.int .u64 t3)] h fun t19 h48 =>
 asI .u64 t19 fun t19a =>
 let t21 := notQ (eqQ t19a t3)
 br t21 (
 S4_24 D m g22 t0 t3 t4 t12 t13 true h48) (
 cal D 16 [(vI t15), (AV.int .u64 t3), (AV.int .u64 t0)] h48 fun t26 h49 =>
 asI .u64 t26 fun t26a =>
 let t28 := notQ (eqQ t26a t3)
 S4_24 D m g22 t0 t3 t4 t12 t13 t28 h49)) (
 S4_0 D m t0 t3 t4 h)
def S4_22 (D : CallD) (m : Nat) : Int → Int → Int → AV → Int → HP → Res2 := nrec (fun _ _ _ _ _ _ => none) (fun _ g => S4_22b D m g) m
def e4_26 (k t0 h) := kN k [(p0, (AV.int .u64 t0))] h
def S4_26 (D : CallD) (m : Nat) (t0 : Int) (h : HP) : Res2 :=
 cal D 10 [] h fun t8 h27 =>
 asB t8 fun t8a =>
 let t9 := !t8a
 br t9 (
 some (.ret (vB false) h27, .no)) (
 cal D 15 [(AV.int .u64 t0)] h27 fun t11 h28 =>
 asI .u64 t11 fun t11a =>
 let t12 := (AV.agg [(vI (Int.ofNat 45)), (vI (Int.ofNat 46)), (vI (Int.ofNat 47)), (vI (Int.ofNat 48))])
 S4_22 D m t0 (Int.ofNat 9221120237041090560) t11a t12 (Int.ofNat 0) h28)
def S4 : SFn := fun D m args h u => nou u <| popI .u64 args fun t0 args => endA args (S4_26 D m t0 h)
theorem T4_5 (hE : FX x4 D m E) : S4_5 D m = e4_5 (E (.opq false l4_5 c4_6) []) := by unfold S4_5; rw [hE (.opq false l4_5 c4_6)]; kernel_rfl
theorem T4_4 (hE : FX x4 D m E) : S4_4 D m = e4_4 (E (.opq false l4_4 c4_6) []) := by unfold S4_4; rw [T4_5 hE, hE (.opq false l4_4 c4_6)]; kernel_rfl
theorem T4_3 (hE : FX x4 D m E) : S4_3 D m = e4_3 (E (.opq false l4_3 c4_6) []) := by unfold S4_3; rw [T4_4 hE, hE (.opq false l4_3 c4_6)]; kernel_rfl
theorem T4_2 (hE : FX x4 D m E) : S4_2 D m = e4_2 (E c4_2 []) := by unfold S4_2; rw [T4_3 hE, hE c4_2]; kernel_rfl
theorem T4_14 (hE : FX x4 D m E) : S4_14 D m = e4_14 (E (.opq false l4_14 c4_15) [.sj v4_2 c4_2]) := by unfold S4_14; rw [T4_2 hE, hE (.opq false l4_14 c4_15)]; kernel_rfl
theorem T4_13 (hE : FX x4 D m E) : S4_13 D m = e4_13 (E (.opq false l4_13 c4_15) [.sj v4_2 c4_2]) := by unfold S4_13; rw [T4_14 hE, hE (.opq false l4_13 c4_15)]; kernel_rfl
theorem T4_12 (hE : FX x4 D m E) : S4_12 D m = e4_12 (E (.opq false l4_12 c4_15) [.sj v4_2 c4_2]) := by unfold S4_12; rw [T4_13 hE, hE (.opq false l4_12 c4_15)]; kernel_rfl
theorem T4_11 (hE : FX x4 D m E) : S4_11 D m = e4_11 (E (.opq false l4_11 c4_15) [.sj v4_2 c4_2]) := by unfold S4_11; rw [T4_12 hE, hE (.opq false l4_11 c4_15)]; kernel_rfl
theorem T4_10 (hE : FX x4 D m E) : S4_10 D m = e4_10 (E (.opq false l4_10 c4_15) [.sj v4_2 c4_2]) := by unfold S4_10; rw [T4_11 hE, hE (.opq false l4_10 c4_15)]; kernel_rfl
theorem T4_9 (hE : FX x4 D m E) : S4_9 D m = e4_9 (E (.opq false l4_9 c4_15) [.sj v4_2 c4_2]) := by unfold S4_9; rw [T4_10 hE, hE (.opq false l4_9 c4_15)]; kernel_rfl
theorem T4_8 (hE : FX x4 D m E) : S4_8 D m = e4_8 (E (.opq false l4_8 c4_15) [.sj v4_2 c4_2]) := by unfold S4_8; rw [T4_9 hE, hE (.opq false l4_8 c4_15)]; kernel_rfl
theorem T4_7 (hE : FX x4 D m E) : S4_7 D m = e4_7 (E (.opq false l4_7 c4_15) [.sj v4_2 c4_2]) := by unfold S4_7; rw [T4_8 hE, hE (.opq false l4_7 c4_15)]; kernel_rfl
theorem T4_1 (hE : FX x4 D m E) : S4_1 D m = e4_1 (E c4_1 []) := by unfold S4_1; rw [T4_7 hE, hE c4_1]; kernel_rfl
theorem T4_20 (hE : FX x4 D m E) : S4_20 D m = e4_20 (E (.opq false l4_20 c4_21) [.sj v4_1 c4_1]) := by unfold S4_20; rw [T4_1 hE, hE (.opq false l4_20 c4_21)]; kernel_rfl
theorem T4_19 (hE : FX x4 D m E) : S4_19 D m = e4_19 (E (.opq false l4_19 c4_21) [.sj v4_1 c4_1]) := by unfold S4_19; rw [T4_20 hE, hE (.opq false l4_19 c4_21)]; kernel_rfl
theorem T4_18 (hE : FX x4 D m E) : S4_18 D m = e4_18 (E (.opq false l4_18 c4_21) [.sj v4_1 c4_1]) := by unfold S4_18; rw [T4_19 hE, hE (.opq false l4_18 c4_21)]; kernel_rfl
theorem T4_17 (hE : FX x4 D m E) : S4_17 D m = e4_17 (E (.opq false l4_17 c4_21) [.sj v4_1 c4_1]) := by unfold S4_17; rw [T4_18 hE, hE (.opq false l4_17 c4_21)]; kernel_rfl
theorem T4_16 (hE : FX x4 D m E) : S4_16 D m = e4_16 (E (.opq false l4_16 c4_21) [.sj v4_1 c4_1]) := by unfold S4_16; rw [T4_17 hE, hE (.opq false l4_16 c4_21)]; kernel_rfl
theorem T4_0 (hE : FX x4 D m E) : S4_0 D m = e4_0 (E c4_0 []) := by unfold S4_0; rw [T4_16 hE, hE c4_0]; kernel_rfl
theorem T4_23 (hE : FX x4 D m E) (G22) : S4_23 D m (e4_22 G22) = e4_23 (E c4_23 [.lp v4_22 G22, .blk 0, .sj v4_0 c4_0]) := by unfold S4_23; rw [hE c4_23]; kernel_rfl
theorem T4_24 (hE : FX x4 D m E) (G22) : S4_24 D m (e4_22 G22) = e4_24 (E (.opq false l4_24 c4_25) [.blk 1, .sj v4_23 c4_23, .lp v4_22 G22, .blk 0, .sj v4_0 c4_0]) := by unfold S4_24; rw [T4_23 hE G22, hE (.opq false l4_24 c4_25)]; kernel_rfl
theorem T4_22b (hE : FX x4 D m E) (G22) : S4_22b D m (e4_22 G22) = e4_22 (E c4_22b [.lp v4_22 G22, .blk 0, .sj v4_0 c4_0]) := by unfold S4_22b; rw [T4_24 hE G22, T4_0 hE, hE c4_22b]; kernel_rfl
theorem T4_22 (hE : FX x4 D m E) : S4_22 D m = e4_22 (nrec (fun _ => none) (fun _ G22 st => E c4_22b [.lp v4_22 G22, .blk 0, .sj v4_0 c4_0] st) m) :=
  nrec_emb e4_22 (fun _ _ _ _ _ _ => none) (fun g => S4_22b D m g) (fun G22 st => E c4_22b [.lp v4_22 G22, .blk 0, .sj v4_0 c4_0] st) rfl (fun g => T4_22b hE g) m
theorem T4_26 (hE : FX x4 D m E) : S4_26 D m = e4_26 (E c4_e []) := by unfold S4_26; rw [T4_22 hE, hE c4_e]; kernel_rfl
theorem X4 : XTie S4 x4 := X_of fun D m E hE args h u => by unfold S4; rw [T4_26 hE]; kernel_rfl
/- 5 -/
def c5_5 : XC := (.s .ret)
def l5_4 : XL := (XL.of [.mv p6 q84 .b])
def l5_3 : XL := (XL.pre [.P p79 (.un .not q78) .b, .mv p80 q79 .b, .sp p80, .G p80 false p81 (.mov q0) (.i .u64), .G p80 false p82 (.mov q2) (.i .u64), .o ⟨(some p83), (.call (.fn 17) [(ci 53), q81, q82]), (some (p80, false)), []⟩ .b, .P p84 (.pick q80 (cb true) q83) .b, .jn p80 [p84]] l5_4)
def v5_2 : List Pos := [p0, p1, p2]
def c5_2 : XC := (.opq false (XL.pre [.mv p71 q0 (.i .u64), .mv p72 q1 (.i .u64), .cl p73 17 [(ci 53), q71, q72] .b, .mv p74 q73 .b, .sp p74, .G p74 true p75 (.mov q1) (.i .u64), .G p74 true p76 (.mov q2) (.i .u64), .o ⟨(some p77), (.call (.fn 17) [(ci 53), q75, q76]), (some (p74, true)), []⟩ .b, .P p78 (.pick q74 q77 (cb false)) .b, .jn p74 [p0, p2, p78]] l5_3) c5_5)
def c5_9 : XC := (.cond q70 (.sO [.mv p6 (cb false) .b] (.s .ret)) (.s .skip))
def l5_8 : XL := (XL.of [])
def l5_7 : XL := (XL.pre [.mv p60 q59 .b, .sp p60, .G p60 false p61 (.mov q0) (.i .u64), .G p60 false p62 (.mov q1) (.i .u64), .o ⟨(some p63), (.call (.fn 17) [(ci 52), q61, q62]), (some (p60, false)), []⟩ .b, .G p60 false p64 (.mov q1) (.i .u64), .o ⟨(some p65), (.call (.fn 18) [q64]), (some (p60, false)), []⟩ (.i .u64), .G p60 false p66 (.mov q0) (.i .u64), .o ⟨(some p67), (.call (.fn 18) [q66]), (some (p60, false)), []⟩ (.i .u64), .o ⟨(some p68), (.call (.fn 17) [(ci 52), q65, q67]), (some (p60, false)), []⟩ .b, .G p60 false p69 (.eqb true q63 q68) .b, .P p70 (.pick q60 (cb true) q69) .b, .jn p60 [p0, p1, p2, p70]] l5_8)
def l5_6 : XL := (XL.pre [.G p46 false p58 (.eqb true q49 q57) .b, .P p59 (.pick q46 (cb true) q58) .b, .jn p46 [p0, p1, p2, p59]] l5_7)
def c5_10 : XC := (.sj v5_2 (.opq false (XL.pre [.mv p38 q7 tI, .bn p39 .eql q38 (ci 1) .b, .mv p40 q10 .b, .P p41 (.eqb true q39 q40) .b, .mv p42 q41 .b, .ge p42 (XL.of [.G p42 false p43 (.mov q7) tI, .G p42 false p44 (.bin .gtr q43 (ci 1)) .b, .P p45 (.pick q42 (cb true) q44) .b]) p45 .b, .mv p46 q45 .b, .sp p46, .G p46 false p47 (.mov q0) (.i .u64), .G p46 false p48 (.mov q1) (.i .u64), .o ⟨(some p49), (.call (.fn 17) [(ci 53), q47, q48]), (some (p46, false)), []⟩ .b, .G p46 false p50 (.mov q0) (.i .u64), .G p46 false p51 (.mov q1) (.i .u64), .o ⟨(some p52), (.call (.fn 17) [(ci 52), q50, q51]), (some (p46, false)), []⟩ .b, .G p46 false p53 (.mov q52) .b, .sp p53, .G p53 false p54 (.mov q0) (.i .u64), .G p53 false p55 (.mov q1) (.i .u64), .o ⟨(some p56), (.call (.fn 17) [(ci 51), q54, q55]), (some (p53, false)), []⟩ .b, .G p46 false p57 (.pick q53 (cb true) q56) .b, .jn p53 [p0, p1, p2, p46, p49, p57]] l5_6) c5_9) c5_2)
def l5_1 : XL := (XL.of [.mv p10 q37 .b])
def v5_0 : List Pos := [p0, p1, p2, p7]
def c5_0 : XC := (.opq false (XL.pre [.mv p30 q0 (.i .u64), .cl p31 15 [q30] (.i .u64), .bn p32 .neq q31 (.c (.int .u64 (.ofNat 9221120237041090560))) .b, .mv p33 q32 .b, .sp p33, .G p33 true p34 (.mov q1) (.i .u64), .o ⟨(some p35), (.call (.fn 15) [q34]), (some (p33, true)), []⟩ (.i .u64), .G p33 true p36 (.bin .neq q35 (.c (.int .u64 (.ofNat 9221120237041090560)))) .b, .P p37 (.pick q33 q36 (cb false)) .b, .jn p33 [p0, p1, p2, p7, p37]] l5_1) c5_10)
def v5_12 : List Pos := [p0, p1, p2, p7, p22, p23]
def c5_12 : XC := (.s (.oX [.bn p29 .add q23 (ci 1) tI, .mv p23 q29 tI]))
def v5_11 : List Pos := [p0, p1, p2, p7, p22, p23]
def c5_11b : XC := (.sO [.bn p24 .lss q23 (ci 3) .b] (.seq (.cond q24 .skip (.exit 0)) (.sj v5_12 (.block 1 (.sO [.P p25 (.idxa 3 1 false q22 q23) .b, .mv p9 q25 .b] (.sO [.mv p26 q9 .b] (.cond q26 (.s (.oX [.mv p27 q7 tI, .bn p28 .add q27 (ci 1) tI, .mv p7 q28 tI])) (.s .skip))))) c5_12)))
def c5_e : XC := (.sO [.mv p6 (cb false) .b] (.seq (.seq (.oX [.cl p11 10 [] .b, .P p12 (.un .not q11) .b]) (.cond q12 (.seq (.oX [.mv p6 (cb false) .b]) .ret) .skip)) (.sO [.mv p7 (ci 0) tI] (.sj v5_0 (.sO [.mv p13 q0 (.i .u64), .mv p14 q1 (.i .u64), .cl p15 17 [(ci 52), q13, q14] .b, .mv p16 q1 (.i .u64), .mv p17 q0 (.i .u64), .cl p18 17 [(ci 52), q16, q17] .b, .mv p19 q0 (.i .u64), .mv p20 q1 (.i .u64), .cl p21 17 [(ci 51), q19, q20] .b, .P p22 (.build [(.bool false), (.bool false), (.bool false)] [⟨0, 1, q15⟩, ⟨1, 1, q18⟩, ⟨2, 1, q21⟩]) .v, .mv p23 (ci 0) tI] (.block 0 (.loop v5_11 c5_11b))) c5_0))))
def x5 : XFn := ⟨[(.i .u64), (.i .u64), (.i .u64)], false, [(.tmp p6)], c5_e⟩
def e5_4 (k t84 h) := kN k [(p84, (vB t84))] h
def S5_4 (D : CallD) (m : Nat) (t84 : Bool) (h : HP) : Res2 :=
 some (.ret (vB t84) h, .no)
def e5_3 (k t0 t2 t78 h) := kN k [(p0, (AV.int .u64 t0)), (p2, (AV.int .u64 t2)), (p78, (vB t78))] h
def S5_3 (D : CallD) (m : Nat) (t0 t2 : Int) (t78 : Bool) (h : HP) : Res2 :=
 let t79 := !t78
 br t79 (
 S5_4 D m true h) (
 cal D 17 [(vI (Int.ofNat 53)), (AV.int .u64 t0), (AV.int .u64 t2)] h fun t83 h19 =>
 asB t83 fun t83a =>
 S5_4 D m t83a h19)
def e5_2 (k t0 t1 t2 h) := kN k [(p0, (AV.int .u64 t0)), (p1, (AV.int .u64 t1)), (p2, (AV.int .u64 t2))] h
def S5_2 (D : CallD) (m : Nat) (t0 t1 t2 : Int) (h : HP) : Res2 :=
 cal D 17 [(vI (Int.ofNat 53)), (AV.int .u64 t0), (AV.int .u64 t1)] h fun t73 h17 =>
 asB t73 fun t73a =>
 br t73a (
 cal D 17 [(vI (Int.ofNat 53)), (AV.int .u64 t1), (AV.int .u64 t2)] h17 fun t77 h18 =>
 asB t77 fun t77a =>
 S5_3 D m t0 t2 t77a h18) (
 S5_3 D m t0 t2 false h17)
def e5_8 (k t0 t1 t2 t70 h) := kN k [(p0, (AV.int .u64 t0)), (p1, (AV.int .u64 t1)), (p2, (AV.int .u64 t2)), (p70, (vB t70))] h
def S5_8 (D : CallD) (m : Nat) (t0 t1 t2 : Int) (t70 : Bool) (h : HP) : Res2 :=
 br t70 (
 some (.ret (vB false) h, .no)) (
 S5_2 D m t0 t1 t2 h)
def e5_7 (k t0 t1 t2 t59 h) := kN k [(p0, (AV.int .u64 t0)), (p1, (AV.int .u64 t1)), (p2, (AV.int .u64 t2)), (p59, (vB t59))] h
def S5_7 (D : CallD) (m : Nat) (t0 t1 t2 : Int) (t59 : Bool) (h : HP) : Res2 :=
 br t59 (
 S5_8 D m t0 t1 t2 true h) (
 cal D 17 [(vI (Int.ofNat 52)), (AV.int .u64 t0), (AV.int .u64 t1)] h fun t63 h20 =>
 asB t63 fun t63a =>
 cal D 18 [(AV.int .u64 t1)] h20 fun t65 h21 =>
 asI .u64 t65 fun t65a =>
 cal D 18 [(AV.int .u64 t0)] h21 fun t67 h22 =>
 asI .u64 t67 fun t67a =>
 cal D 17 [(vI (Int.ofNat 52)), (AV.int .u64 t65a), (AV.int .u64 t67a)] h22 fun t68 h23 =>
 asB t68 fun t68a =>
 let t69 := ((t63a == t68a) != true)
 S5_8 D m t0 t1 t2 t69 h23)
def e5_6 (k t0 t1 t2 t49 t57 h) := kN k [(p0, (AV.int .u64 t0)), (p1, (AV.int .u64 t1)), (p2, (AV.int .u64 t2)), (p46, .bool false), (p49, (vB t49)), (p57, (vB t57))] h
def S5_6 (D : CallD) (m : Nat) (t0 t1 t2 : Int) (t49 t57 : Bool) (h : HP) : Res2 :=
 let t58 := ((t49 == t57) != true)
 S5_7 D m t0 t1 t2 t58 h
def e5_1 (k t0 t1 t2 t7 t37 h) := kN k [(p0, (AV.int .u64 t0)), (p1, (AV.int .u64 t1)), (p2, (AV.int .u64 t2)), (p7, (vI t7)), (p37, (vB t37))] h
def S5_1 (D : CallD) (m : Nat) (t0 t1 t2 t7 : Int) (t37 : Bool) (h : HP) : Res2 :=
 let t39 := eqQ t7 (Int.ofNat 1)
 let t41 := ((t39 == t37) != true)
 obB (brV t41 (
 some (vB true)) (
 let t44 := ltQ (Int.ofNat 1) t7
 some (vB t44))) fun t45 =>
 br t45 (
 S5_7 D m t0 t1 t2 true h) (
 cal D 17 [(vI (Int.ofNat 53)), (AV.int .u64 t0), (AV.int .u64 t1)] h fun t49 h24 =>
 asB t49 fun t49a =>
 cal D 17 [(vI (Int.ofNat 52)), (AV.int .u64 t0), (AV.int .u64 t1)] h24 fun t52 h25 =>
 asB t52 fun t52a =>
 br t52a (
 S5_6 D m t0 t1 t2 t49a true h25) (
 cal D 17 [(vI (Int.ofNat 51)), (AV.int .u64 t0), (AV.int .u64 t1)] h25 fun t56 h26 =>
 asB t56 fun t56a =>
 S5_6 D m t0 t1 t2 t49a t56a h26))
def e5_0 (k t0 t1 t2 t7 h) := kN k [(p0, (AV.int .u64 t0)), (p1, (AV.int .u64 t1)), (p2, (AV.int .u64 t2)), (p7, (vI t7))] h
def S5_0 (D : CallD) (m : Nat) (t0 t1 t2 t7 : Int) (h : HP) : Res2 :=
 cal D 15 [(AV.int .u64 t0)] h fun t31 h15 =>
 asI .u64 t31 fun t31a =>
 let t32 := notQ (eqQ t31a (Int.ofNat 9221120237041090560))
 br t32 (
 cal D 15 [(AV.int .u64 t1)] h15 fun t35 h16 =>
 asI .u64 t35 fun t35a =>
 let t36 := notQ (eqQ t35a (Int.ofNat 9221120237041090560))
 S5_1 D m t0 t1 t2 t7 t36 h16) (
 S5_1 D m t0 t1 t2 t7 false h15)
def e5_12 (k t0 t1 t2 t7 t22 t23 h) := kN k [(p0, (AV.int .u64 t0)), (p1, (AV.int .u64 t1)), (p2, (AV.int .u64 t2)), (p7, (vI t7)), (p22, t22), (p23, (vI t23))] h
def S5_12 (D : CallD) (m : Nat) (g11 : Int → Int → Int → Int → AV → Int → HP → Res2) (t0 t1 t2 t7 : Int) (t22 : AV) (t23 : Int) (h : HP) : Res2 :=
 let t29 := wrQ .i64 (addQ t23 (Int.ofNat 1))
 g11 t0 t1 t2 t7 t22 t29 h
def e5_11 (k t0 t1 t2 t7 t22 t23 h) := kN k [(p0, (AV.int .u64 t0)), (p1, (AV.int .u64 t1)), (p2, (AV.int .u64 t2)), (p7, (vI t7)), (p22, t22), (p23, (vI t23))] h
def S5_11b (D : CallD) (m : Nat) (g11 : Int → Int → Int → Int → AV → Int → HP → Res2) (t0 t1 t2 t7 : Int) (t22 : AV) (t23 : Int) (h : HP) : Res2 :=
 let t24 := ltQ t23 (Int.ofNat 3)
 br t24 (
 obB (evP (.idxa 3 1 false (.c t22) (.c (vI t23))) .leaf) fun t25 =>
 br t25 (
 let t28 := wrQ .i64 (addQ t7 (Int.ofNat 1))
 S5_12 D m g11 t0 t1 t2 t28 t22 t23 h) (
 S5_12 D m g11 t0 t1 t2 t7 t22 t23 h)) (
 S5_0 D m t0 t1 t2 t7 h)
def S5_11 (D : CallD) (m : Nat) : Int → Int → Int → Int → AV → Int → HP → Res2 := nrec (fun _ _ _ _ _ _ _ => none) (fun _ g => S5_11b D m g) m
def e5_13 (k t0 t1 t2 h) := kN k [(p0, (AV.int .u64 t0)), (p1, (AV.int .u64 t1)), (p2, (AV.int .u64 t2))] h
def S5_13 (D : CallD) (m : Nat) (t0 t1 t2 : Int) (h : HP) : Res2 :=
 cal D 10 [] h fun t11 h14 =>
 asB t11 fun t11a =>
 let t12 := !t11a
 br t12 (
 some (.ret (vB false) h14, .no)) (
 cal D 17 [(vI (Int.ofNat 52)), (AV.int .u64 t0), (AV.int .u64 t1)] h14 fun t15 h27 =>
 asB t15 fun t15a =>
 cal D 17 [(vI (Int.ofNat 52)), (AV.int .u64 t1), (AV.int .u64 t0)] h27 fun t18 h28 =>
 asB t18 fun t18a =>
 cal D 17 [(vI (Int.ofNat 51)), (AV.int .u64 t0), (AV.int .u64 t1)] h28 fun t21 h29 =>
 asB t21 fun t21a =>
 let t22 := (AV.agg [(vB t15a), (vB t18a), (vB t21a)])
 S5_11 D m t0 t1 t2 (Int.ofNat 0) t22 (Int.ofNat 0) h29)
def S5 : SFn := fun D m args h u => nou u <| popI .u64 args fun t0 args => popI .u64 args fun t1 args => popI .u64 args fun t2 args => endA args (S5_13 D m t0 t1 t2 h)
theorem T5_4 (hE : FX x5 D m E) : S5_4 D m = e5_4 (E (.opq false l5_4 c5_5) []) := by unfold S5_4; rw [hE (.opq false l5_4 c5_5)]; kernel_rfl
theorem T5_3 (hE : FX x5 D m E) : S5_3 D m = e5_3 (E (.opq false l5_3 c5_5) []) := by unfold S5_3; rw [T5_4 hE, hE (.opq false l5_3 c5_5)]; kernel_rfl
theorem T5_2 (hE : FX x5 D m E) : S5_2 D m = e5_2 (E c5_2 []) := by unfold S5_2; rw [T5_3 hE, hE c5_2]; kernel_rfl
theorem T5_8 (hE : FX x5 D m E) : S5_8 D m = e5_8 (E (.opq false l5_8 c5_9) [.sj v5_2 c5_2]) := by unfold S5_8; rw [T5_2 hE, hE (.opq false l5_8 c5_9)]; kernel_rfl
theorem T5_7 (hE : FX x5 D m E) : S5_7 D m = e5_7 (E (.opq false l5_7 c5_9) [.sj v5_2 c5_2]) := by unfold S5_7; rw [T5_8 hE, hE (.opq false l5_7 c5_9)]; kernel_rfl
theorem T5_6 (hE : FX x5 D m E) : S5_6 D m = e5_6 (E (.opq false l5_6 c5_9) [.sj v5_2 c5_2]) := by unfold S5_6; rw [T5_7 hE, hE (.opq false l5_6 c5_9)]; kernel_rfl
theorem T5_1 (hE : FX x5 D m E) : S5_1 D m = e5_1 (E (.opq false l5_1 c5_10) []) := by unfold S5_1; rw [T5_7 hE, T5_6 hE, hE (.opq false l5_1 c5_10)]; kernel_rfl
theorem T5_0 (hE : FX x5 D m E) : S5_0 D m = e5_0 (E c5_0 []) := by unfold S5_0; rw [T5_1 hE, hE c5_0]; kernel_rfl
theorem T5_12 (hE : FX x5 D m E) (G11) : S5_12 D m (e5_11 G11) = e5_12 (E c5_12 [.lp v5_11 G11, .blk 0, .sj v5_0 c5_0]) := by unfold S5_12; rw [hE c5_12]; kernel_rfl
theorem T5_11b (hE : FX x5 D m E) (G11) : S5_11b D m (e5_11 G11) = e5_11 (E c5_11b [.lp v5_11 G11, .blk 0, .sj v5_0 c5_0]) := by unfold S5_11b; rw [T5_12 hE G11, T5_0 hE, hE c5_11b]; kernel_rfl
theorem T5_11 (hE : FX x5 D m E) : S5_11 D m = e5_11 (nrec (fun _ => none) (fun _ G11 st => E c5_11b [.lp v5_11 G11, .blk 0, .sj v5_0 c5_0] st) m) :=
  nrec_emb e5_11 (fun _ _ _ _ _ _ _ => none) (fun g => S5_11b D m g) (fun G11 st => E c5_11b [.lp v5_11 G11, .blk 0, .sj v5_0 c5_0] st) rfl (fun g => T5_11b hE g) m
theorem T5_13 (hE : FX x5 D m E) : S5_13 D m = e5_13 (E c5_e []) := by unfold S5_13; rw [T5_11 hE, hE c5_e]; kernel_rfl
theorem X5 : XTie S5 x5 := X_of fun D m E hE args h u => by unfold S5; rw [T5_13 hE]; kernel_rfl
/- 6 -/
def c6_2 : XC := (.s .ret)
def l6_1 : XL := (XL.of [.mv p6 q76 .b])
def v6_0 : List Pos := [p7, p8]
def c6_0 : XC := (.sO [.mv p52 q7 tW, .bn p53 .rem q52 (.c (.int .u32 (.ofNat 1048576))) tW, .mv p54 q8 tW, .bn p55 .rem q54 (.c (.int .u32 (.ofNat 1048576))) tW, .mv p7 q53 tW, .mv p8 q55 tW] (.opq false (XL.pre [.mv p56 q7 tW, .cl p57 19 [q56] (.i .u64), .mv p58 q8 tW, .cl p59 19 [q58] (.i .u64), .cl p60 16 [(ci 45), q57, q59] (.i .u64), .mv p61 q7 tW, .mv p62 q8 tW, .bn p63 .add q61 q62 tW, .cl p64 19 [q63] (.i .u64), .bn p65 .eql q60 q64 .b, .mv p66 q65 .b, .sp p66, .G p66 true p67 (.mov q7) tW, .o ⟨(some p68), (.call (.fn 19) [q67]), (some (p66, true)), []⟩ (.i .u64), .G p66 true p69 (.mov q8) tW, .o ⟨(some p70), (.call (.fn 19) [q69]), (some (p66, true)), []⟩ (.i .u64), .o ⟨(some p71), (.call (.fn 17) [(ci 52), q68, q70]), (some (p66, true)), []⟩ .b, .G p66 true p72 (.mov q7) tW, .G p66 true p73 (.mov q8) tW, .G p66 true p74 (.bin .lss q72 q73) .b, .G p66 true p75 (.eqb false q71 q74) .b, .P p76 (.pick q66 q75 (cb false)) .b, .jn p66 [p76]] l6_1) c6_2))
def c6_6 : XC := (.cond q51 (.sO [.mv p6 (cb false) .b] (.s .ret)) (.s .skip))
def l6_5 : XL := (XL.of [])
def l6_4 : XL := (XL.pre [.mv p41 q40 .b, .sp p41, .G p41 false p42 (.mov q0) (.i .u64), .o ⟨(some p43), (.call (.fn 18) [q42]), (some (p41, false)), []⟩ (.i .u64), .G p41 false p44 (.mov q1) (.i .u64), .o ⟨(some p45), (.call (.fn 16) [(ci 47), q43, q44]), (some (p41, false)), []⟩ (.i .u64), .G p41 false p46 (.mov q0) (.i .u64), .G p41 false p47 (.mov q1) (.i .u64), .o ⟨(some p48), (.call (.fn 16) [(ci 47), q46, q47]), (some (p41, false)), []⟩ (.i .u64), .o ⟨(some p49), (.call (.fn 18) [q48]), (some (p41, false)), []⟩ (.i .u64), .G p41 false p50 (.bin .neq q45 q49) .b, .P p51 (.pick q41 (cb true) q50) .b, .jn p41 [p7, p8, p51]] l6_5)
def l6_3 : XL := (XL.pre [.mv p31 q30 .b, .sp p31, .G p31 false p32 (.mov q0) (.i .u64), .G p31 false p33 (.mov q1) (.i .u64), .o ⟨(some p34), (.call (.fn 16) [(ci 46), q32, q33]), (some (p31, false)), []⟩ (.i .u64), .G p31 false p35 (.mov q0) (.i .u64), .G p31 false p36 (.mov q1) (.i .u64), .o ⟨(some p37), (.call (.fn 18) [q36]), (some (p31, false)), []⟩ (.i .u64), .o ⟨(some p38), (.call (.fn 16) [(ci 45), q35, q37]), (some (p31, false)), []⟩ (.i .u64), .G p31 false p39 (.bin .neq q34 q38) .b, .P p40 (.pick q31 (cb true) q39) .b, .jn p31 [p0, p1, p7, p8, p40]] l6_4)
def c6_e : XC := (.sO [.al p5 (.box q2), .mv p6 (cb false) .b] (.seq (.ops true (XL.of [.P p9 (.iaddr (.arr 2 1) q5 (ci 0)) .v, .ld p10 q9 tW, .P p11 (.iaddr (.arr 2 1) q5 (ci 1)) .v, .ld p12 q11 tW, .mv p7 q10 tW, .mv p8 q12 tW])) (.seq (.seq (.oX [.cl p13 10 [] .b, .P p14 (.un .not q13) .b]) (.cond q14 (.seq (.oX [.mv p6 (cb false) .b]) .ret) .skip)) (.sj v6_0 (.opq false (XL.pre [.mv p15 q0 (.i .u64), .mv p16 q1 (.i .u64), .cl p17 16 [(ci 45), q15, q16] (.i .u64), .mv p18 q1 (.i .u64), .mv p19 q0 (.i .u64), .cl p20 16 [(ci 45), q18, q19] (.i .u64), .bn p21 .neq q17 q20 .b, .mv p22 q21 .b, .sp p22, .G p22 false p23 (.mov q0) (.i .u64), .G p22 false p24 (.mov q1) (.i .u64), .o ⟨(some p25), (.call (.fn 16) [(ci 47), q23, q24]), (some (p22, false)), []⟩ (.i .u64), .G p22 false p26 (.mov q1) (.i .u64), .G p22 false p27 (.mov q0) (.i .u64), .o ⟨(some p28), (.call (.fn 16) [(ci 47), q26, q27]), (some (p22, false)), []⟩ (.i .u64), .G p22 false p29 (.bin .neq q25 q28) .b, .P p30 (.pick q22 (cb true) q29) .b, .jn p22 [p0, p1, p7, p8, p30]] l6_3) c6_6) c6_0))))
def x6 : XFn := ⟨[(.i .u64), (.i .u64), .v], false, [(.tmp p6)], c6_e⟩
def e6_1 (k t76 h) := kN k [(p76, (vB t76))] h
def S6_1 (D : CallD) (m : Nat) (t76 : Bool) (h : HP) : Res2 :=
 some (.ret (vB t76) h, .no)
def e6_0 (k t7 t8 h) := kN k [(p7, (vW t7)), (p8, (vW t8))] h
def S6_0 (D : CallD) (m : Nat) (t7 t8 : Int) (h : HP) : Res2 :=
 binC .rem (vW t7) (vW (Int.ofNat 1048576)) fun vt53 => asI .u32 vt53 fun t53 =>
 binC .rem (vW t8) (vW (Int.ofNat 1048576)) fun vt55 => asI .u32 vt55 fun t55 =>
 cal D 19 [(vW t53)] h fun t57 h10 =>
 asI .u64 t57 fun t57a =>
 cal D 19 [(vW t55)] h10 fun t59 h11 =>
 asI .u64 t59 fun t59a =>
 cal D 16 [(vI (Int.ofNat 45)), (AV.int .u64 t57a), (AV.int .u64 t59a)] h11 fun t60 h12 =>
 asI .u64 t60 fun t60a =>
 binC .add (vW t53) (vW t55) fun vt63 => asI .u32 vt63 fun t63 =>
 cal D 19 [(vW t63)] h12 fun t64 h13 =>
 asI .u64 t64 fun t64a =>
 let t65 := eqQ t60a t64a
 br t65 (
 cal D 19 [(vW t53)] h13 fun t68 h14 =>
 asI .u64 t68 fun t68a =>
 cal D 19 [(vW t55)] h14 fun t70 h15 =>
 asI .u64 t70 fun t70a =>
 cal D 17 [(vI (Int.ofNat 52)), (AV.int .u64 t68a), (AV.int .u64 t70a)] h15 fun t71 h16 =>
 asB t71 fun t71a =>
 binC .lss (vW t53) (vW t55) fun vt74 => asB vt74 fun t74 =>
 let t75 := ((t71a == t74) != false)
 S6_1 D m t75 h16) (
 S6_1 D m false h13)
def e6_5 (k t7 t8 t51 h) := kN k [(p7, (vW t7)), (p8, (vW t8)), (p51, (vB t51))] h
def S6_5 (D : CallD) (m : Nat) (t7 t8 : Int) (t51 : Bool) (h : HP) : Res2 :=
 br t51 (
 some (.ret (vB false) h, .no)) (
 S6_0 D m t7 t8 h)
def e6_4 (k t0 t1 t7 t8 t40 h) := kN k [(p0, (AV.int .u64 t0)), (p1, (AV.int .u64 t1)), (p7, (vW t7)), (p8, (vW t8)), (p40, (vB t40))] h
def S6_4 (D : CallD) (m : Nat) (t0 t1 t7 t8 : Int) (t40 : Bool) (h : HP) : Res2 :=
 br t40 (
 S6_5 D m t7 t8 true h) (
 cal D 18 [(AV.int .u64 t0)] h fun t43 h19 =>
 asI .u64 t43 fun t43a =>
 cal D 16 [(vI (Int.ofNat 47)), (AV.int .u64 t43a), (AV.int .u64 t1)] h19 fun t45 h20 =>
 asI .u64 t45 fun t45a =>
 cal D 16 [(vI (Int.ofNat 47)), (AV.int .u64 t0), (AV.int .u64 t1)] h20 fun t48 h21 =>
 asI .u64 t48 fun t48a =>
 cal D 18 [(AV.int .u64 t48a)] h21 fun t49 h22 =>
 asI .u64 t49 fun t49a =>
 let t50 := notQ (eqQ t45a t49a)
 S6_5 D m t7 t8 t50 h22)
def e6_3 (k t0 t1 t7 t8 t30 h) := kN k [(p0, (AV.int .u64 t0)), (p1, (AV.int .u64 t1)), (p7, (vW t7)), (p8, (vW t8)), (p30, (vB t30))] h
def S6_3 (D : CallD) (m : Nat) (t0 t1 t7 t8 : Int) (t30 : Bool) (h : HP) : Res2 :=
 br t30 (
 S6_4 D m t0 t1 t7 t8 true h) (
 cal D 16 [(vI (Int.ofNat 46)), (AV.int .u64 t0), (AV.int .u64 t1)] h fun t34 h23 =>
 asI .u64 t34 fun t34a =>
 cal D 18 [(AV.int .u64 t1)] h23 fun t37 h24 =>
 asI .u64 t37 fun t37a =>
 cal D 16 [(vI (Int.ofNat 45)), (AV.int .u64 t0), (AV.int .u64 t37a)] h24 fun t38 h25 =>
 asI .u64 t38 fun t38a =>
 let t39 := notQ (eqQ t34a t38a)
 S6_4 D m t0 t1 t7 t8 t39 h25)
def e6_7 (k t0 t1 t2 h) := kN k [(p0, (AV.int .u64 t0)), (p1, (AV.int .u64 t1)), (p2, t2)] h
def S6_7 (D : CallD) (m : Nat) (t0 t1 : Int) (t2 : AV) (h : HP) : Res2 :=
 let t5 := AV.ptr (HP.nxQ h) 0
 let h8 := HP.newQ h (.cells true (AV.cells t2))
 let t9 := (AV.ptr (HP.nxQ h) (Nat.add 0 (Nat.mul 0 1)))
 ldW t9 h8 fun t10 =>
 let t11 := (AV.ptr (HP.nxQ h) (Nat.add 0 (Nat.mul 1 1)))
 ldW t11 h8 fun t12 =>
 cal D 10 [] h8 fun t13 h9 =>
 asB t13 fun t13a =>
 let t14 := !t13a
 br t14 (
 some (.ret (vB false) h9, .no)) (
 cal D 16 [(vI (Int.ofNat 45)), (AV.int .u64 t0), (AV.int .u64 t1)] h9 fun t17 h17 =>
 asI .u64 t17 fun t17a =>
 cal D 16 [(vI (Int.ofNat 45)), (AV.int .u64 t1), (AV.int .u64 t0)] h17 fun t20 h18 =>
 asI .u64 t20 fun t20a =>
 let t21 := notQ (eqQ t17a t20a)
 br t21 (
 S6_3 D m t0 t1 t10 t12 true h18) (
 cal D 16 [(vI (Int.ofNat 47)), (AV.int .u64 t0), (AV.int .u64 t1)] h18 fun t25 h26 =>
 asI .u64 t25 fun t25a =>
 cal D 16 [(vI (Int.ofNat 47)), (AV.int .u64 t1), (AV.int .u64 t0)] h26 fun t28 h27 =>
 asI .u64 t28 fun t28a =>
 let t29 := notQ (eqQ t25a t28a)
 S6_3 D m t0 t1 t10 t12 t29 h27))
def S6 : SFn := fun D m args h u => nou u <| popI .u64 args fun t0 args => popI .u64 args fun t1 args => popV args fun t2 args => endA args (S6_7 D m t0 t1 t2 h)
theorem T6_1 (hE : FX x6 D m E) : S6_1 D m = e6_1 (E (.opq false l6_1 c6_2) []) := by unfold S6_1; rw [hE (.opq false l6_1 c6_2)]; kernel_rfl
theorem T6_0 (hE : FX x6 D m E) : S6_0 D m = e6_0 (E c6_0 []) := by unfold S6_0; rw [T6_1 hE, hE c6_0]; kernel_rfl
theorem T6_5 (hE : FX x6 D m E) : S6_5 D m = e6_5 (E (.opq false l6_5 c6_6) [.sj v6_0 c6_0]) := by unfold S6_5; rw [T6_0 hE, hE (.opq false l6_5 c6_6)]; kernel_rfl
theorem T6_4 (hE : FX x6 D m E) : S6_4 D m = e6_4 (E (.opq false l6_4 c6_6) [.sj v6_0 c6_0]) := by unfold S6_4; rw [T6_5 hE, hE (.opq false l6_4 c6_6)]; kernel_rfl
theorem T6_3 (hE : FX x6 D m E) : S6_3 D m = e6_3 (E (.opq false l6_3 c6_6) [.sj v6_0 c6_0]) := by unfold S6_3; rw [T6_4 hE, hE (.opq false l6_3 c6_6)]; kernel_rfl
theorem T6_7 (hE : FX x6 D m E) : S6_7 D m = e6_7 (E c6_e []) := by unfold S6_7; rw [T6_3 hE, hE c6_e]; kernel_rfl
theorem X6 : XTie S6 x6 := X_of fun D m E hE args h u => by unfold S6; rw [T6_7 hE]; kernel_rfl
/- 10 -/
def c10_1 : XC := (.s .ret)
def l10_0 : XL := (XL.of [.mv p0 q30 .b])
def c10_e : XC := (.sO [.mv p0 (cb false) .b] (.sO [.cl p6 27 [(.c (.str [49, 46, 53, 101, 49]))] .v, .mv p5 q6 .v, .P p7 (.ext q5 0) (.i .u64), .P p8 (.ext q5 1) tI, .mv p1 q7 (.i .u64), .mv p2 q8 tI] (.sO [.cl p10 11 [(ci 48), (.c (.int .u64 (.ofNat 0))), (.c (.int .u64 (.ofNat 0)))] .v, .mv p9 q10 .v, .P p11 (.ext q9 0) (.i .u64), .P p12 (.ext q9 1) tI, .mv p3 q11 (.i .u64), .mv p4 q12 tI] (.opq false (XL.pre [.mv p13 q2 tI, .bn p14 .eql q13 (ci 0) .b, .mv p15 q14 .b, .ge p15 (XL.of [.G p15 true p16 (.mov q1) (.i .u64), .G p15 true p17 (.bin .eql q16 (.c (.int .u64 (.ofNat 4624633867356078080)))) .b, .P p18 (.pick q15 q17 (cb false)) .b]) p18 .b, .mv p19 q18 .b, .ge p19 (XL.of [.G p19 true p20 (.mov q4) tI, .G p19 true p21 (.bin .eql q20 (ci 0)) .b, .P p22 (.pick q19 q21 (cb false)) .b]) p22 .b, .mv p23 q22 .b, .ge p23 (XL.of [.G p23 true p24 (.mov q3) (.i .u64), .G p23 true p25 (.bin .eql q24 (.c (.int .u64 (.ofNat 9221120237041090560)))) .b, .P p26 (.pick q23 q25 (cb false)) .b]) p26 .b, .mv p27 q26 .b, .sp p27, .o ⟨(some p28), (.call (.fn 22) [(.c (.int .u64 (.ofNat 18442240474082181120)))]), (some (p27, true)), []⟩ tW, .G p27 true p29 (.bin .eql q28 (.c (.int .u32 (.ofNat 2147483648)))) .b, .P p30 (.pick q27 q29 (cb false)) .b, .jn p27 [p30]] l10_0) c10_1))))
def x10 : XFn := ⟨[], false, [(.tmp p0)], c10_e⟩
def e10_0 (k t30 h) := kN k [(p30, (vB t30))] h
def S10_0 (D : CallD) (m : Nat) (t30 : Bool) (h : HP) : Res2 :=
 some (.ret (vB t30) h, .no)
def e10_2 (k h) := kN k [] h
def S10_2 (D : CallD) (m : Nat) (h : HP) : Res2 :=
 cal D 27 [(vS ([49, 46, 53, 101, 49] : LN))] h fun t6 h3 =>
 extC t6 0 fun vt7 => asI .u64 vt7 fun t7 =>
 extC t6 1 fun vt8 => asI .i64 vt8 fun t8 =>
 cal D 11 [(vI (Int.ofNat 48)), (AV.int .u64 (Int.ofNat 0)), (AV.int .u64 (Int.ofNat 0))] h3 fun t10 h4 =>
 extC t10 0 fun vt11 => asI .u64 vt11 fun t11 =>
 extC t10 1 fun vt12 => asI .i64 vt12 fun t12 =>
 let t14 := eqQ t8 (Int.ofNat 0)
 obB (brV t14 (
 let t17 := eqQ t7 (Int.ofNat 4624633867356078080)
 some (vB t17)) (
 some (vB false))) fun t18 =>
 obB (brV t18 (
 let t21 := eqQ t12 (Int.ofNat 0)
 some (vB t21)) (
 some (vB false))) fun t22 =>
 obB (brV t22 (
 let t25 := eqQ t11 (Int.ofNat 9221120237041090560)
 some (vB t25)) (
 some (vB false))) fun t26 =>
 br t26 (
 cal D 22 [(AV.int .u64 (Int.ofNat 18442240474082181120))] h4 fun t28 h5 =>
 asI .u32 t28 fun t28a =>
 binC .eql (vW t28a) (vW (Int.ofNat 2147483648)) fun vt29 => asB vt29 fun t29 =>
 S10_0 D m t29 h5) (
 S10_0 D m false h4)
def S10 : SFn := fun D m args h u => nou u <| endA args (S10_2 D m h)
theorem T10_0 (hE : FX x10 D m E) : S10_0 D m = e10_0 (E (.opq false l10_0 c10_1) []) := by unfold S10_0; rw [hE (.opq false l10_0 c10_1)]; kernel_rfl
theorem T10_2 (hE : FX x10 D m E) : S10_2 D m = e10_2 (E c10_e []) := by unfold S10_2; rw [T10_0 hE, hE c10_e]; kernel_rfl
theorem X10 : XTie S10 x10 := X_of fun D m E hE args h u => by unfold S10; rw [T10_2 hE]; kernel_rfl
/- 11 -/
def c11_e : XC := (.sO [.mv p6 (.c (.int .u64 (.ofNat 0))) (.i .u64), .mv p7 (ci 0) tI] (.sO [.mv p10 q1 (.i .u64), .cl p11 31 [q10] .v, .mv p12 q2 (.i .u64), .cl p13 31 [q12] .v, .mv p8 q11 .v, .mv p9 q13 .v] (.seq (.seq (.oX [.mv p14 q0 tI]) (.block 0 (.seq (.oX [.bn p16 .eql q14 (ci 45) .b, .mv p15 q16 .b]) (.cond q15 (.seq (.oX [.mv p17 q8 .v, .mv p18 q9 .v, .bn p19 .add q17 q18 .v, .cl p20 32 [q19] (.i .u64), .mv p6 q20 (.i .u64), .mv p7 (ci 0) tI]) .ret) (.seq (.oX [.bn p22 .eql q14 (ci 46) .b, .mv p21 q22 .b]) (.cond q21 (.seq (.oX [.mv p23 q8 .v, .mv p24 q9 .v, .bn p25 .sub q23 q24 .v, .cl p26 32 [q25] (.i .u64), .mv p6 q26 (.i .u64), .mv p7 (ci 0) tI]) .ret) (.seq (.oX [.bn p28 .eql q14 (ci 47) .b, .mv p27 q28 .b]) (.cond q27 (.seq (.oX [.mv p29 q8 .v, .mv p30 q9 .v, .bn p31 .mul q29 q30 .v, .cl p32 32 [q31] (.i .u64), .mv p6 q32 (.i .u64), .mv p7 (ci 0) tI]) .ret) (.seq (.oX [.bn p34 .eql q14 (ci 48) .b, .mv p33 q34 .b]) (.cond q33 (.seq (.oX [.mv p35 q8 .v, .mv p36 q9 .v, .bn p37 .quo q35 q36 .v, .cl p38 32 [q37] (.i .u64), .mv p6 q38 (.i .u64), .mv p7 (ci 0) tI]) .ret) .skip)))))))))) (.sO [.mv p6 (.c (.int .u64 (.ofNat 0))) (.i .u64), .mv p7 (ci 1) tI] (.s .ret)))))
def x11 : XFn := ⟨[tI, (.i .u64), (.i .u64)], false, [(.tmp p6), (.tmp p7)], c11_e⟩
def e11_0 (k t0 t1 t2 h) := kN k [(p0, (vI t0)), (p1, (AV.int .u64 t1)), (p2, (AV.int .u64 t2))] h
def S11_0 (D : CallD) (m : Nat) (t0 t1 t2 : Int) (h : HP) : Res2 :=
 cal D 31 [(AV.int .u64 t1)] h fun t11 h1 =>
 cal D 31 [(AV.int .u64 t2)] h1 fun t13 h2 =>
 let t16 := eqQ t0 (Int.ofNat 45)
 br t16 (
 binC .add t11 t13 fun t19 =>
 cal D 32 [t19] h2 fun t20 h3 =>
 asI .u64 t20 fun t20a =>
 some (.ret (.tup [(AV.int .u64 t20a), (vI (Int.ofNat 0))]) h3, .no)) (
 let t22 := eqQ t0 (Int.ofNat 46)
 br t22 (
 binC .sub t11 t13 fun t25 =>
 cal D 32 [t25] h2 fun t26 h4 =>
 asI .u64 t26 fun t26a =>
 some (.ret (.tup [(AV.int .u64 t26a), (vI (Int.ofNat 0))]) h4, .no)) (
 let t28 := eqQ t0 (Int.ofNat 47)
 br t28 (
 binC .mul t11 t13 fun t31 =>
 cal D 32 [t31] h2 fun t32 h5 =>
 asI .u64 t32 fun t32a =>
 some (.ret (.tup [(AV.int .u64 t32a), (vI (Int.ofNat 0))]) h5, .no)) (
 let t34 := eqQ t0 (Int.ofNat 48)
 br t34 (
 binC .quo t11 t13 fun t37 =>
 cal D 32 [t37] h2 fun t38 h6 =>
 asI .u64 t38 fun t38a =>
 some (.ret (.tup [(AV.int .u64 t38a), (vI (Int.ofNat 0))]) h6, .no)) (
 some (.ret (.tup [(AV.int .u64 (Int.ofNat 0)), (vI (Int.ofNat 1))]) h2, .no)))))
def S11 : SFn := fun D m args h u => nou u <| popI .i64 args fun t0 args => popI .u64 args fun t1 args => popI .u64 args fun t2 args => endA args (S11_0 D m t0 t1 t2 h)
theorem T11_0 (hE : FX x11 D m E) : S11_0 D m = e11_0 (E c11_e []) := by unfold S11_0; rw [hE c11_e]; kernel_rfl
theorem X11 : XTie S11 x11 := X_of fun D m E hE args h u => by unfold S11; rw [T11_0 hE]; kernel_rfl
/- 13 -/
def v13_0 : List Pos := [p10]
def c13_0 : XC := (.seq (.seq (.oX [.mv p31 q10 .b]) (.cond q31 (.seq (.oX [.mv p6 (.c (.int .u32 (.ofNat 1))) tW, .mv p7 (ci 0) tI]) .ret) .skip)) (.sO [.mv p6 (.c (.int .u32 (.ofNat 0))) tW, .mv p7 (ci 0) tI] (.s .ret)))
def c13_e : XC := (.sO [.mv p6 (.c (.int .u32 (.ofNat 0))) tW, .mv p7 (ci 0) tI] (.sO [.mv p11 q1 (.i .u64), .cl p12 31 [q11] .v, .mv p13 q2 (.i .u64), .cl p14 31 [q13] .v, .mv p8 q12 .v, .mv p9 q14 .v] (.sO [.mv p10 (cb false) .b] (.sj v13_0 (.sO [.mv p15 q0 tI] (.block 0 (.sO [.bn p17 .eql q15 (ci 51) .b, .mv p16 q17 .b] (.cond q16 (.s (.oX [.mv p18 q8 .v, .mv p19 q9 .v, .bn p20 .eql q18 q19 .b, .mv p10 q20 .b])) (.sO [.bn p22 .eql q15 (ci 52) .b, .mv p21 q22 .b] (.cond q21 (.s (.oX [.mv p23 q8 .v, .mv p24 q9 .v, .bn p25 .lss q23 q24 .b, .mv p10 q25 .b])) (.sO [.bn p27 .eql q15 (ci 53) .b, .mv p26 q27 .b] (.cond q26 (.s (.oX [.mv p28 q8 .v, .mv p29 q9 .v, .bn p30 .leq q28 q29 .b, .mv p10 q30 .b])) (.sO [.mv p6 (.c (.int .u32 (.ofNat 0))) tW, .mv p7 (ci 1) tI] (.s .ret)))))))))) c13_0))))
def x13 : XFn := ⟨[tI, (.i .u64), (.i .u64)], false, [(.tmp p6), (.tmp p7)], c13_e⟩
def e13_0 (k t10 h) := kN k [(p10, (vB t10))] h
def S13_0 (D : CallD) (m : Nat) (t10 : Bool) (h : HP) : Res2 :=
 br t10 (
 some (.ret (.tup [(vW (Int.ofNat 1)), (vI (Int.ofNat 0))]) h, .no)) (
 some (.ret (.tup [(vW (Int.ofNat 0)), (vI (Int.ofNat 0))]) h, .no))
def e13_1 (k t0 t1 t2 h) := kN k [(p0, (vI t0)), (p1, (AV.int .u64 t1)), (p2, (AV.int .u64 t2))] h
def S13_1 (D : CallD) (m : Nat) (t0 t1 t2 : Int) (h : HP) : Res2 :=
 cal D 31 [(AV.int .u64 t1)] h fun t12 h2 =>
 cal D 31 [(AV.int .u64 t2)] h2 fun t14 h3 =>
 let t17 := eqQ t0 (Int.ofNat 51)
 br t17 (
 binC .eql t12 t14 fun vt20 => asB vt20 fun t20 =>
 S13_0 D m t20 h3) (
 let t22 := eqQ t0 (Int.ofNat 52)
 br t22 (
 binC .lss t12 t14 fun vt25 => asB vt25 fun t25 =>
 S13_0 D m t25 h3) (
 let t27 := eqQ t0 (Int.ofNat 53)
 br t27 (
 binC .leq t12 t14 fun vt30 => asB vt30 fun t30 =>
 S13_0 D m t30 h3) (
 some (.ret (.tup [(vW (Int.ofNat 0)), (vI (Int.ofNat 1))]) h3, .no))))
def S13 : SFn := fun D m args h u => nou u <| popI .i64 args fun t0 args => popI .u64 args fun t1 args => popI .u64 args fun t2 args => endA args (S13_1 D m t0 t1 t2 h)
theorem T13_0 (hE : FX x13 D m E) : S13_0 D m = e13_0 (E c13_0 []) := by unfold S13_0; rw [hE c13_0]; kernel_rfl
theorem T13_1 (hE : FX x13 D m E) : S13_1 D m = e13_1 (E c13_e []) := by unfold S13_1; rw [T13_0 hE, hE c13_e]; kernel_rfl
theorem X13 : XTie S13 x13 := X_of fun D m E hE args h u => by unfold S13; rw [T13_1 hE]; kernel_rfl
/- 15 -/
def c15_e : XC := (.sO [.mv p2 (.c (.int .u64 (.ofNat 0))) (.i .u64)] (.sO [.mv p3 q0 (.i .u64), .cl p4 31 [q3] .v, .cl p5 32 [q4] (.i .u64), .mv p2 q5 (.i .u64)] (.s .ret)))
def x15 : XFn := ⟨[(.i .u64)], false, [(.tmp p2)], c15_e⟩
def e15_0 (k t0 h) := kN k [(p0, (AV.int .u64 t0))] h
def S15_0 (D : CallD) (m : Nat) (t0 : Int) (h : HP) : Res2 :=
 cal D 31 [(AV.int .u64 t0)] h fun t4 h1 =>
 cal D 32 [t4] h1 fun t5 h2 =>
 asI .u64 t5 fun t5a =>
 some (.ret (AV.int .u64 t5a) h2, .no)
def S15 : SFn := fun D m args h u => nou u <| popI .u64 args fun t0 args => endA args (S15_0 D m t0 h)
theorem T15_0 (hE : FX x15 D m E) : S15_0 D m = e15_0 (E c15_e []) := by unfold S15_0; rw [hE c15_e]; kernel_rfl
theorem X15 : XTie S15 x15 := X_of fun D m E hE args h u => by unfold S15; rw [T15_0 hE]; kernel_rfl
/- 16 -/
def c16_e : XC := (.sO [.mv p6 (.c (.int .u64 (.ofNat 0))) (.i .u64)] (.sO [.mv p10 q0 tI, .mv p11 q1 (.i .u64), .mv p12 q2 (.i .u64), .cl p13 11 [q10, q11, q12] .v, .mv p9 q13 .v, .P p14 (.ext q9 0) (.i .u64), .P p15 (.ext q9 1) tI, .mv p7 q14 (.i .u64), .mv p8 q15 tI] (.sO [.mv p16 q7 (.i .u64), .mv p6 q16 (.i .u64)] (.s .ret))))
def x16 : XFn := ⟨[tI, (.i .u64), (.i .u64)], false, [(.tmp p6)], c16_e⟩
def e16_0 (k t0 t1 t2 h) := kN k [(p0, (vI t0)), (p1, (AV.int .u64 t1)), (p2, (AV.int .u64 t2))] h
def S16_0 (D : CallD) (m : Nat) (t0 t1 t2 : Int) (h : HP) : Res2 :=
 cal D 11 [(vI t0), (AV.int .u64 t1), (AV.int .u64 t2)] h fun t13 h1 =>
 extC t13 0 fun vt14 => asI .u64 vt14 fun t14 =>
 extC t13 1 fun vt15 => asI .i64 vt15 fun t15 =>
 some (.ret (AV.int .u64 t14) h1, .no)
def S16 : SFn := fun D m args h u => nou u <| popI .i64 args fun t0 args => popI .u64 args fun t1 args => popI .u64 args fun t2 args => endA args (S16_0 D m t0 t1 t2 h)
theorem T16_0 (hE : FX x16 D m E) : S16_0 D m = e16_0 (E c16_e []) := by unfold S16_0; rw [hE c16_e]; kernel_rfl
theorem X16 : XTie S16 x16 := X_of fun D m E hE args h u => by unfold S16; rw [T16_0 hE]; kernel_rfl
/- 17 -/
def c17_e : XC := (.sO [.mv p6 (cb false) .b] (.sO [.mv p10 q0 tI, .mv p11 q1 (.i .u64), .mv p12 q2 (.i .u64), .cl p13 13 [q10, q11, q12] .v, .mv p9 q13 .v, .P p14 (.ext q9 0) tW, .P p15 (.ext q9 1) tI, .mv p7 q14 tW, .mv p8 q15 tI] (.sO [.mv p16 q7 tW, .bn p17 .eql q16 (.c (.int .u32 (.ofNat 1))) .b, .mv p6 q17 .b] (.s .ret))))
def x17 : XFn := ⟨[tI, (.i .u64), (.i .u64)], false, [(.tmp p6)], c17_e⟩
def e17_0 (k t0 t1 t2 h) := kN k [(p0, (vI t0)), (p1, (AV.int .u64 t1)), (p2, (AV.int .u64 t2))] h
def S17_0 (D : CallD) (m : Nat) (t0 t1 t2 : Int) (h : HP) : Res2 :=
 cal D 13 [(vI t0), (AV.int .u64 t1), (AV.int .u64 t2)] h fun t13 h1 =>
 extC t13 0 fun vt14 => asI .u32 vt14 fun t14 =>
 extC t13 1 fun vt15 => asI .i64 vt15 fun t15 =>
 binC .eql (vW t14) (vW (Int.ofNat 1)) fun vt17 => asB vt17 fun t17 =>
 some (.ret (vB t17) h1, .no)
def S17 : SFn := fun D m args h u => nou u <| popI .i64 args fun t0 args => popI .u64 args fun t1 args => popI .u64 args fun t2 args => endA args (S17_0 D m t0 t1 t2 h)
theorem T17_0 (hE : FX x17 D m E) : S17_0 D m = e17_0 (E c17_e []) := by unfold S17_0; rw [hE c17_e]; kernel_rfl
theorem X17 : XTie S17 x17 := X_of fun D m E hE args h u => by unfold S17; rw [T17_0 hE]; kernel_rfl
/- 18 -/
def c18_e : XC := (.sO [.mv p2 (.c (.int .u64 (.ofNat 0))) (.i .u64)] (.sO [.mv p3 q0 (.i .u64), .cl p4 31 [q3] .v, .mv p5 q0 (.i .u64), .bn p6 .xor q5 (.c (.int .u64 (.ofNat 9223372036854775808))) (.i .u64), .cl p7 31 [q6] .v, .cl p8 42 [q4, q7] .v, .cl p9 32 [q8] (.i .u64), .mv p2 q9 (.i .u64)] (.s .ret)))
def x18 : XFn := ⟨[(.i .u64)], false, [(.tmp p2)], c18_e⟩
def e18_0 (k t0 h) := kN k [(p0, (AV.int .u64 t0))] h
def S18_0 (D : CallD) (m : Nat) (t0 : Int) (h : HP) : Res2 :=
 cal D 31 [(AV.int .u64 t0)] h fun t4 h1 =>
 obI .u64 (intBin .xor .u64 t0 (Int.ofNat 9223372036854775808)) fun t6 =>
 cal D 31 [(AV.int .u64 t6)] h1 fun t7 h2 =>
 cal D 42 [t4, t7] h2 fun t8 h3 =>
 cal D 32 [t8] h3 fun t9 h4 =>
 asI .u64 t9 fun t9a =>
 some (.ret (AV.int .u64 t9a) h4, .no)
def S18 : SFn := fun D m args h u => nou u <| popI .u64 args fun t0 args => endA args (S18_0 D m t0 h)
theorem T18_0 (hE : FX x18 D m E) : S18_0 D m = e18_0 (E c18_e []) := by unfold S18_0; rw [hE c18_e]; kernel_rfl
theorem X18 : XTie S18 x18 := X_of fun D m E hE args h u => by unfold S18; rw [T18_0 hE]; kernel_rfl
/- 19 -/
def c19_e : XC := (.sO [.mv p2 (.c (.int .u64 (.ofNat 0))) (.i .u64)] (.sO [.mv p3 q0 tW, .cl p4 43 [q3] tI, .P p5 (.conv (.jf .f64) q4) .v, .cl p6 32 [q5] (.i .u64), .mv p2 q6 (.i .u64)] (.s .ret)))
def x19 : XFn := ⟨[tW], false, [(.tmp p2)], c19_e⟩
def e19_0 (k t0 h) := kN k [(p0, (vW t0))] h
def S19_0 (D : CallD) (m : Nat) (t0 : Int) (h : HP) : Res2 :=
 cal D 43 [(vW t0)] h fun t4 h1 =>
 asI .i64 t4 fun t4a =>
 let t5 := AV.flt .f64 (FloatKind.nearest .f64 t4a)
 cal D 32 [t5] h1 fun t6 h2 =>
 asI .u64 t6 fun t6a =>
 some (.ret (AV.int .u64 t6a) h2, .no)
def S19 : SFn := fun D m args h u => nou u <| popI .u32 args fun t0 args => endA args (S19_0 D m t0 h)
theorem T19_0 (hE : FX x19 D m E) : S19_0 D m = e19_0 (E c19_e []) := by unfold S19_0; rw [hE c19_e]; kernel_rfl
theorem X19 : XTie S19 x19 := X_of fun D m E hE args h u => by unfold S19; rw [T19_0 hE]; kernel_rfl
/- 22 -/
def c22_e : XC := (.sO [.mv p2 (.c (.int .u32 (.ofNat 0))) tW] (.sO [.mv p4 q0 (.i .u64), .cl p5 31 [q4] .v, .cl p6 44 [q5] .v, .mv p3 q6 .v] (.seq (.block 0 (.seq (.oX [.mv p8 q3 .v, .cl p9 45 [q8] .b, .mv p10 q9 .b, .ge p10 (XL.of [.G p10 false p11 (.mov q3) .v, .G p10 false p12 (.bin .gtr q11 (.c (.flt .f64 4746794007244308480))) .b, .P p13 (.pick q10 (cb true) q12) .b]) p13 .b, .mv p7 q13 .b]) (.cond q7 (.seq (.oX [.mv p2 (.c (.int .u32 (.ofNat 2147483647))) tW]) .ret) (.seq (.oX [.mv p15 q3 .v, .bn p16 .lss q15 (.c (.flt .f64 13970166044103278592)) .b, .mv p14 q16 .b]) (.cond q14 (.seq (.oX [.mv p2 (.c (.int .u32 (.ofNat 2147483648))) tW]) .ret) .skip))))) (.sO [.mv p17 q3 .v, .P p18 (.conv (.fi .i64) q17) tI, .cl p19 46 [q18] tW, .mv p2 q19 tW] (.s .ret)))))
def x22 : XFn := ⟨[(.i .u64)], false, [(.tmp p2)], c22_e⟩
def e22_0 (k t0 h) := kN k [(p0, (AV.int .u64 t0))] h
def S22_0 (D : CallD) (m : Nat) (t0 : Int) (h : HP) : Res2 :=
 cal D 31 [(AV.int .u64 t0)] h fun t5 h1 =>
 cal D 44 [t5] h1 fun t6 h2 =>
 cal D 45 [t6] h2 fun t9 h3 =>
 asB t9 fun t9a =>
 obB (brV t9a (
 some (vB true)) (
 binCV .gtr t6 ((.flt .f64 4746794007244308480) : AV) fun vt12 => asBV vt12 fun t12 =>
 some (vB t12))) fun t13 =>
 br t13 (
 some (.ret (vW (Int.ofNat 2147483647)) h3, .no)) (
 binC .lss t6 ((.flt .f64 13970166044103278592) : AV) fun vt16 => asB vt16 fun t16 =>
 br t16 (
 some (.ret (vW (Int.ofNat 2147483648)) h3, .no)) (
 obI .i64 (evP (.conv (.fi .i64) (.c t6)) .leaf) fun t18 =>
 cal D 46 [(vI t18)] h3 fun t19 h4 =>
 asI .u32 t19 fun t19a =>
 some (.ret (vW t19a) h4, .no)))
def S22 : SFn := fun D m args h u => nou u <| popI .u64 args fun t0 args => endA args (S22_0 D m t0 h)
theorem T22_0 (hE : FX x22 D m E) : S22_0 D m = e22_0 (E c22_e []) := by unfold S22_0; rw [hE c22_e]; kernel_rfl
theorem X22 : XTie S22 x22 := X_of fun D m E hE args h u => by unfold S22; rw [T22_0 hE]; kernel_rfl
/- 27 -/
def v27_0 : List Pos := [p0, p4, p5]
def c27_0 : XC := (.seq (.seq (.oX [.mv p68 q5 .b, .P p69 (.un .not q68) .b, .mv p70 q69 .b, .ge p70 (XL.of [.G p70 false p71 (.mov q4) .s, .G p70 false p72 (.bin .neq q71 (.c (.str []))) .b, .P p73 (.pick q70 (cb true) q72) .b]) p73 .b]) (.cond q73 (.seq (.oX [.mv p2 (.c (.int .u64 (.ofNat 0))) (.i .u64), .mv p3 (ci 2) tI]) .ret) .skip)) (.sO [.mv p75 q0 .s, .cl p76 53 [q75, (ci 64)] .v, .mv p74 q76 .v, .P p77 (.ext q74 0) .v, .P p78 (.ext q74 1) .v, .mv p10 q77 .v, .mv p11 q78 .v] (.sO [.mv p79 q10 .v, .cl p80 32 [q79] (.i .u64), .mv p2 q80 (.i .u64), .mv p3 (ci 0) tI] (.s .ret))))
def v27_1 : List Pos := [p0, p5, p8]
def c27_1 : XC := (.sO [.mv p60 q8 .s, .cl p61 51 [q60] .v, .mv p59 q61 .v, .P p62 (.ext q59 0) .s, .P p63 (.ext q59 1) .b, .mv p4 q62 .s, .mv p7 q63 .b] (.s (.oX [.mv p64 q5 .b, .mv p65 q64 .b, .ge p65 (XL.of [.G p65 true p66 (.mov q7) .b, .P p67 (.pick q65 q66 (cb false)) .b]) p67 .b, .mv p5 q67 .b])))
def c27_e : XC := (.sO [.mv p2 (.c (.int .u64 (.ofNat 0))) (.i .u64), .mv p3 (ci 0) tI] (.sO [.mv p13 q0 .s, .cl p14 51 [q13] .v, .mv p12 q14 .v, .P p15 (.ext q12 0) .s, .P p16 (.ext q12 1) .b, .mv p4 q15 .s, .mv p5 q16 .b] (.sO [.mv p18 q4 .s, .cl p19 52 [q18, (.c (.str [46]))] .v, .mv p17 q19 .v, .P p20 (.ext q17 0) .s, .P p21 (.ext q17 1) .b, .mv p4 q20 .s, .mv p6 q21 .b] (.sO [.mv p23 q4 .s, .cl p24 51 [q23] .v, .mv p22 q24 .v, .P p25 (.ext q22 0) .s, .P p26 (.ext q22 1) .b, .mv p4 q25 .s, .mv p7 q26 .b] (.sO [.mv p27 q5 .b, .mv p28 q27 .b, .ge p28 (XL.of [.G p28 true p29 (.mov q6) .b, .P p30 (.pick q28 q29 (cb false)) .b]) p30 .b, .mv p31 q30 .b, .ge p31 (XL.of [.G p31 true p32 (.mov q7) .b, .P p33 (.pick q31 q32 (cb false)) .b]) p33 .b, .mv p34 q33 .b, .ge p34 (XL.of [.G p34 true p35 (.mov q0) .s, .G p34 true p36 (.lens q35) tI, .G p34 true p37 (.bin .leq q36 (ci 40)) .b, .P p38 (.pick q34 q37 (cb false)) .b]) p38 .b, .mv p5 q38 .b] (.sj v27_0 (.sO [.mv p40 q4 .s, .cl p41 52 [q40, (.c (.str [101]))] .v, .mv p39 q41 .v, .P p42 (.ext q39 0) .s, .P p43 (.ext q39 1) .b, .mv p8 q42 .s, .mv p9 q43 .b] (.sO [.mv p44 q9 .b] (.cond q44 (.sj v27_1 (.sO [.mv p45 q8 .s, .bn p46 .neq q45 (.c (.str [])) .b, .mv p47 q46 .b, .ge p47 (XL.of [.G p47 true p48 (.mov q8) .s, .G p47 true p49 (.idxs q48 (ci 0)) tC, .G p47 true p50 (.bin .eql q49 (.c (.int .u8 (.ofNat 43)))) .b, .G p47 true p51 (.mov q50) .b, .ge p51 (XL.of [.G p51 false p52 (.mov q8) .s, .G p51 false p53 (.idxs q52 (ci 0)) tC, .G p51 false p54 (.bin .eql q53 (.c (.int .u8 (.ofNat 45)))) .b, .G p47 true p55 (.pick q51 (cb true) q54) .b]) p55 .b, .P p56 (.pick q47 q55 (cb false)) .b]) p56 .b] (.cond q56 (.s (.oX [.mv p57 q8 .s, .P p58 (.slice .str q57 (some (ci 1)) none none) .s, .mv p8 q58 .s])) (.s .skip))) c27_1) (.s .skip)))) c27_0))))))
def x27 : XFn := ⟨[.s], false, [(.tmp p2), (.tmp p3)], c27_e⟩
def e27_0 (k t0 t4 t5 h) := kN k [(p0, (vS t0)), (p4, (vS t4)), (p5, (vB t5))] h
def S27_0 (D : CallD) (m : Nat) (t0 t4 : LN) (t5 : Bool) (h : HP) : Res2 :=
 let t69 := !t5
 obB (brV t69 (
 some (vB true)) (
 let t72 := !(eqL t4 ([] : LN))
 some (vB t72))) fun t73 =>
 br t73 (
 some (.ret (.tup [(AV.int .u64 (Int.ofNat 0)), (vI (Int.ofNat 2))]) h, .no)) (
 cal D 53 [(vS t0), (vI (Int.ofNat 64))] h fun t76 h6 =>
 extC t76 0 fun t77 =>
 extC t76 1 fun t78 =>
 cal D 32 [t77] h6 fun t80 h7 =>
 asI .u64 t80 fun t80a =>
 some (.ret (.tup [(AV.int .u64 t80a), (vI (Int.ofNat 0))]) h7, .no))
def e27_1 (k t0 t5 t8 h) := kN k [(p0, (vS t0)), (p5, (vB t5)), (p8, (vS t8))] h
def S27_1 (D : CallD) (m : Nat) (t0 : LN) (t5 : Bool) (t8 : LN) (h : HP) : Res2 :=
 cal D 51 [(vS t8)] h fun t61 h9 =>
 extC t61 0 fun vt62 => asS vt62 fun t62 =>
 extC t61 1 fun vt63 => asB vt63 fun t63 =>
 obB (brV t5 (
 some (vB t63)) (
 some (vB false))) fun t67 =>
 S27_0 D m t0 t62 t67 h9
def e27_2 (k t0 h) := kN k [(p0, (vS t0))] h
def S27_2 (D : CallD) (m : Nat) (t0 : LN) (h : HP) : Res2 :=
 cal D 51 [(vS t0)] h fun t14 h3 =>
 extC t14 0 fun vt15 => asS vt15 fun t15 =>
 extC t14 1 fun vt16 => asB vt16 fun t16 =>
 cal D 52 [(vS t15), (vS ([46] : LN))] h3 fun t19 h4 =>
 extC t19 0 fun vt20 => asS vt20 fun t20 =>
 extC t19 1 fun vt21 => asB vt21 fun t21 =>
 cal D 51 [(vS t20)] h4 fun t24 h5 =>
 extC t24 0 fun vt25 => asS vt25 fun t25 =>
 extC t24 1 fun vt26 => asB vt26 fun t26 =>
 obB (brV t16 (
 some (vB t21)) (
 some (vB false))) fun t30 =>
 obB (brV t30 (
 some (vB t26)) (
 some (vB false))) fun t33 =>
 obB (brV t33 (
 let t36 := Int.ofNat (lenL t0)
 let t37 := leQ t36 (Int.ofNat 40)
 some (vB t37)) (
 some (vB false))) fun t38 =>
 cal D 52 [(vS t25), (vS ([101] : LN))] h5 fun t41 h8 =>
 extC t41 0 fun vt42 => asS vt42 fun t42 =>
 extC t41 1 fun vt43 => asB vt43 fun t43 =>
 br t43 (
 let t46 := !(eqL t42 ([] : LN))
 obB (brV t46 (
 ixCV (vS t42) (vI (Int.ofNat 0)) fun vt49 => asIV .u8 vt49 fun t49 =>
 let t50 := eqQ t49 (Int.ofNat 43)
 obBV (brV t50 (
 some (vB true)) (
 ixCV (vS t42) (vI (Int.ofNat 0)) fun vt53 => asIV .u8 vt53 fun t53 =>
 let t54 := eqQ t53 (Int.ofNat 45)
 some (vB t54))) fun t55 =>
 some (vB t55)) (
 some (vB false))) fun t56 =>
 br t56 (
 slC (vS t42) (some (vI (Int.ofNat 1))) none fun vt58 => asS vt58 fun t58 =>
 S27_1 D m t0 t38 t58 h8) (
 S27_1 D m t0 t38 t42 h8)) (
 S27_0 D m t0 t25 t38 h8)
def S27 : SFn := fun D m args h u => nou u <| popS args fun t0 args => endA args (S27_2 D m t0 h)
theorem T27_0 (hE : FX x27 D m E) : S27_0 D m = e27_0 (E c27_0 []) := by unfold S27_0; rw [hE c27_0]; kernel_rfl
theorem T27_1 (hE : FX x27 D m E) : S27_1 D m = e27_1 (E c27_1 [.sj v27_0 c27_0]) := by unfold S27_1; rw [T27_0 hE, hE c27_1]; kernel_rfl
theorem T27_2 (hE : FX x27 D m E) : S27_2 D m = e27_2 (E c27_e []) := by unfold S27_2; rw [T27_1 hE, T27_0 hE, hE c27_e]; kernel_rfl
theorem X27 : XTie S27 x27 := X_of fun D m E hE args h u => by unfold S27; rw [T27_2 hE]; kernel_rfl
/- 31 -/
def c31_e : XC := (.sO [.mv p2 (.c (.flt .f64 0)) .v] (.sO [.mv p3 q0 (.i .u64), .P p4 (.xt .ffrom [q3]) .v, .mv p2 q4 .v] (.s .ret)))
def x31 : XFn := ⟨[(.i .u64)], false, [(.tmp p2)], c31_e⟩
def e31_0 (k t0 h) := kN k [(p0, (AV.int .u64 t0))] h
def S31_0 (D : CallD) (m : Nat) (t0 : Int) (h : HP) : Res2 :=
 obQ (evP (.xt .ffrom [(.c (AV.int .u64 t0))]) .leaf) fun t4 =>
 some (.ret t4 h, .no)
def S31 : SFn := fun D m args h u => nou u <| popI .u64 args fun t0 args => endA args (S31_0 D m t0 h)
theorem T31_0 (hE : FX x31 D m E) : S31_0 D m = e31_0 (E c31_e []) := by unfold S31_0; rw [hE c31_e]; kernel_rfl
theorem X31 : XTie S31 x31 := X_of fun D m E hE args h u => by unfold S31; rw [T31_0 hE]; kernel_rfl
/- 32 -/
def c32_e : XC := (.sO [.mv p2 (.c (.int .u64 (.ofNat 0))) (.i .u64)] (.seq (.seq (.oX [.mv p3 q0 .v, .cl p4 45 [q3] .b]) (.cond q4 (.seq (.oX [.mv p2 (.c (.int .u64 (.ofNat 9221120237041090560))) (.i .u64)]) .ret) .skip)) (.sO [.mv p5 q0 .v, .P p6 (.xt .fbits [q5]) (.i .u64), .mv p2 q6 (.i .u64)] (.s .ret))))
def x32 : XFn := ⟨[.v], false, [(.tmp p2)], c32_e⟩
def e32_0 (k t0 h) := kN k [(p0, t0)] h
def S32_0 (D : CallD) (m : Nat) (t0 : AV) (h : HP) : Res2 :=
 cal D 45 [t0] h fun t4 h1 =>
 asB t4 fun t4a =>
 br t4a (
 some (.ret (AV.int .u64 (Int.ofNat 9221120237041090560)) h1, .no)) (
 obI .u64 (evP (.xt .fbits [(.c t0)]) .leaf) fun t6 =>
 some (.ret (AV.int .u64 t6) h1, .no))
def S32 : SFn := fun D m args h u => nou u <| popV args fun t0 args => endA args (S32_0 D m t0 h)
theorem T32_0 (hE : FX x32 D m E) : S32_0 D m = e32_0 (E c32_e []) := by unfold S32_0; rw [hE c32_e]; kernel_rfl
theorem X32 : XTie S32 x32 := X_of fun D m E hE args h u => by unfold S32; rw [T32_0 hE]; kernel_rfl
/- 42 -/
def c42_e : XC := (.sO [.mv p4 (.c (.flt .f64 0)) .v] (.sO [.mv p5 q0 .v, .P p6 (.xt .fbits [q5]) (.i .u64), .bn p7 .andNot q6 (.c (.int .u64 (.ofNat 9223372036854775808))) (.i .u64), .mv p8 q1 .v, .P p9 (.xt .fbits [q8]) (.i .u64), .bn p10 .and q9 (.c (.int .u64 (.ofNat 9223372036854775808))) (.i .u64), .bn p11 .or q7 q10 (.i .u64), .P p12 (.xt .ffrom [q11]) .v, .mv p4 q12 .v] (.s .ret)))
def x42 : XFn := ⟨[.v, .v], false, [(.tmp p4)], c42_e⟩
def e42_0 (k t0 t1 h) := kN k [(p0, t0), (p1, t1)] h
def S42_0 (D : CallD) (m : Nat) (t0 t1 : AV) (h : HP) : Res2 :=
 obI .u64 (evP (.xt .fbits [(.c t0)]) .leaf) fun t6 =>
 let t7 := IntKind.wrap .u64 (BitVec.ofInt (IntKind.bits .u64) t6 &&& ~~~ BitVec.ofInt (IntKind.bits .u64) (Int.ofNat 9223372036854775808)).toNat
 obI .u64 (evP (.xt .fbits [(.c t1)]) .leaf) fun t9 =>
 obI .u64 (intBin .and .u64 t9 (Int.ofNat 9223372036854775808)) fun t10 =>
 obI .u64 (intBin .or .u64 t7 t10) fun t11 =>
 obQ (evP (.xt .ffrom [(.c (AV.int .u64 t11))]) .leaf) fun t12 =>
 some (.ret t12 h, .no)
def S42 : SFn := fun D m args h u => nou u <| popV args fun t0 args => popV args fun t1 args => endA args (S42_0 D m t0 t1 h)
theorem T42_0 (hE : FX x42 D m E) : S42_0 D m = e42_0 (E c42_e []) := by unfold S42_0; rw [hE c42_e]; kernel_rfl
theorem X42 : XTie S42 x42 := X_of fun D m E hE args h u => by unfold S42; rw [T42_0 hE]; kernel_rfl
/- 43 -/
def c43_e : XC := (.sO [.mv p2 (ci 0) tI] (.sO [.mv p3 q0 tW, .P p4 (.conv (.ii .i32) q3) (.i .i32), .P p5 (.conv (.ii .i64) q4) tI, .mv p2 q5 tI] (.s .ret)))
def x43 : XFn := ⟨[tW], false, [(.tmp p2)], c43_e⟩
def e43_0 (k t0 h) := kN k [(p0, (vW t0))] h
def S43_0 (D : CallD) (m : Nat) (t0 : Int) (h : HP) : Res2 :=
 obI .i32 (convV (.ii .i32) (vW t0)) fun t4 =>
 let t5 := wrapF .i64 t4
 some (.ret (vI t5) h, .no)
def S43 : SFn := fun D m args h u => nou u <| popI .u32 args fun t0 args => endA args (S43_0 D m t0 h)
theorem T43_0 (hE : FX x43 D m E) : S43_0 D m = e43_0 (E c43_e []) := by unfold S43_0; rw [hE c43_e]; kernel_rfl
theorem X43 : XTie S43 x43 := X_of fun D m E hE args h u => by unfold S43; rw [T43_0 hE]; kernel_rfl
/- 44 -/
def c44_e : XC := (.sO [.mv p2 (.c (.flt .f64 0)) .v] (.seq (.cond (cb true) (.seq (.oX [.mv p3 q0 .v, .P p4 (.xt .trunc [q3]) .v, .mv p2 q4 .v]) .ret) .skip) (.sO [.mv p5 q0 .v, .cl p6 66 [q5] .v, .mv p2 q6 .v] (.s .ret))))
def x44 : XFn := ⟨[.v], false, [(.tmp p2)], c44_e⟩
def e44_0 (k t0 h) := kN k [(p0, t0)] h
def S44_0 (D : CallD) (m : Nat) (t0 : AV) (h : HP) : Res2 :=
 obQ (evP (.xt .trunc [(.c t0)]) .leaf) fun t4 =>
 some (.ret t4 h, .no)
def S44 : SFn := fun D m args h u => nou u <| popV args fun t0 args => endA args (S44_0 D m t0 h)
theorem T44_0 (hE : FX x44 D m E) : S44_0 D m = e44_0 (E c44_e []) := by unfold S44_0; rw [hE c44_e]; kernel_rfl
theorem X44 : XTie S44 x44 := X_of fun D m E hE args h u => by unfold S44; rw [T44_0 hE]; kernel_rfl
/- 45 -/
def c45_e : XC := (.sO [.mv p2 (cb false) .b] (.sO [.mv p3 q0 .v, .mv p4 q0 .v, .bn p5 .neq q3 q4 .b, .mv p2 q5 .b] (.s .ret)))
def x45 : XFn := ⟨[.v], false, [(.tmp p2)], c45_e⟩
def e45_0 (k t0 h) := kN k [(p0, t0)] h
def S45_0 (D : CallD) (m : Nat) (t0 : AV) (h : HP) : Res2 :=
 binC .neq t0 t0 fun vt5 => asB vt5 fun t5 =>
 some (.ret (vB t5) h, .no)
def S45 : SFn := fun D m args h u => nou u <| popV args fun t0 args => endA args (S45_0 D m t0 h)
theorem T45_0 (hE : FX x45 D m E) : S45_0 D m = e45_0 (E c45_e []) := by unfold S45_0; rw [hE c45_e]; kernel_rfl
theorem X45 : XTie S45 x45 := X_of fun D m E hE args h u => by unfold S45; rw [T45_0 hE]; kernel_rfl
/- 51 -/
def c51_e : XC := (.sO [.mv p2 (.c (.str [])) .s, .mv p3 (cb false) .b] (.sO [.mv p5 q0 .s, .cl p6 74 [q5, (.c (.str [48, 49, 50, 51, 52, 53, 54, 55, 56, 57]))] .s, .mv p4 q6 .s] (.sO [.mv p7 q4 .s, .mv p8 q4 .s, .P p9 (.lens q8) tI, .mv p10 q0 .s, .P p11 (.lens q10) tI, .bn p12 .lss q9 q11 .b, .mv p2 q7 .s, .mv p3 q12 .b] (.s .ret))))
def x51 : XFn := ⟨[.s], false, [(.tmp p2), (.tmp p3)], c51_e⟩
def e51_0 (k t0 h) := kN k [(p0, (vS t0))] h
def S51_0 (D : CallD) (m : Nat) (t0 : LN) (h : HP) : Res2 :=
 cal D 74 [(vS t0), (vS ([48, 49, 50, 51, 52, 53, 54, 55, 56, 57] : LN))] h fun t6 h1 =>
 asS t6 fun t6a =>
 let t9 := Int.ofNat (lenL t6a)
 let t11 := Int.ofNat (lenL t0)
 let t12 := ltQ t9 t11
 some (.ret (.tup [(vS t6a), (vB t12)]) h1, .no)
def S51 : SFn := fun D m args h u => nou u <| popS args fun t0 args => endA args (S51_0 D m t0 h)
theorem T51_0 (hE : FX x51 D m E) : S51_0 D m = e51_0 (E c51_e []) := by unfold S51_0; rw [hE c51_e]; kernel_rfl
theorem X51 : XTie S51 x51 := X_of fun D m E hE args h u => by unfold S51; rw [T51_0 hE]; kernel_rfl
/- 52 -/
def c52_e : XC := (.sO [.mv p4 (.c (.str [])) .s, .mv p5 (cb false) .b] (.sO [.mv p6 q0 .s, .mv p7 q1 .s, .cl p8 75 [q6, q7] .v, .P p9 (.ext q8 0) .s, .P p10 (.ext q8 1) .b, .mv p4 q9 .s, .mv p5 q10 .b] (.s .ret)))
def x52 : XFn := ⟨[.s, .s], false, [(.tmp p4), (.tmp p5)], c52_e⟩
def e52_0 (k t0 t1 h) := kN k [(p0, (vS t0)), (p1, (vS t1))] h
def S52_0 (D : CallD) (m : Nat) (t0 t1 : LN) (h : HP) : Res2 :=
 cal D 75 [(vS t0), (vS t1)] h fun t8 h1 =>
 extC t8 0 fun vt9 => asS vt9 fun t9 =>
 extC t8 1 fun vt10 => asB vt10 fun t10 =>
 some (.ret (.tup [(vS t9), (vB t10)]) h1, .no)
def S52 : SFn := fun D m args h u => nou u <| popS args fun t0 args => popS args fun t1 args => endA args (S52_0 D m t0 t1 h)
theorem T52_0 (hE : FX x52 D m E) : S52_0 D m = e52_0 (E c52_e []) := by unfold S52_0; rw [hE c52_e]; kernel_rfl
theorem X52 : XTie S52 x52 := X_of fun D m E hE args h u => by unfold S52; rw [T52_0 hE]; kernel_rfl
/- 53 -/
def c53_e : XC := (.sO [.mv p4 (.c (.flt .f64 0)) .v, .mv p5 (.c .nili) .v] (.sO [.mv p9 q0 .s, .mv p10 q1 tI, .cl p11 76 [q9, q10] .v, .mv p8 q11 .v, .P p12 (.ext q8 0) .v, .P p13 (.ext q8 1) .v, .mv p6 q12 .v, .mv p7 q13 .v] (.seq (.seq (.oX [.mv p14 q7 .v, .P p15 (.eqn .ifc true q14 (.c .nili)) .b]) (.cond q15 (.seq (.oX [.mv p16 q6 .v, .mv p17 q0 .s, .mv p18 q1 tI, .mv p19 q7 .v, .cl p20 77 [(.c (.str [80, 97, 114, 115, 101, 70, 108, 111, 97, 116])), q17, (ci 0), q18, q19] .v, .mv p4 q16 .v, .mv p5 q20 .v]) .ret) .skip)) (.sO [.mv p21 q6 .v, .mv p4 q21 .v, .mv p5 (.c .nili) .v] (.s .ret)))))
def x53 : XFn := ⟨[.s, tI], false, [(.tmp p4), (.tmp p5)], c53_e⟩
def e53_0 (k t0 t1 h) := kN k [(p0, (vS t0)), (p1, (vI t1))] h
def S53_0 (D : CallD) (m : Nat) (t0 : LN) (t1 : Int) (h : HP) : Res2 :=
 cal D 76 [(vS t0), (vI t1)] h fun t11 h1 =>
 extC t11 0 fun t12 =>
 extC t11 1 fun t13 =>
 obB (evP (.eqn .ifc true (.c t13) (.c (.nili : AV))) .leaf) fun t15 =>
 br t15 (
 cal D 77 [(vS ([80, 97, 114, 115, 101, 70, 108, 111, 97, 116] : LN)), (vS t0), (vI (Int.ofNat 0)), (vI t1), t13] h1 fun t20 h2 =>
 some (.ret (.tup [t12, t20]) h2, .no)) (
 some (.ret (.tup [t12, (.nili : AV)]) h1, .no))
def S53 : SFn := fun D m args h u => nou u <| popS args fun t0 args => popI .i64 args fun t1 args => endA args (S53_0 D m t0 t1 h)
theorem T53_0 (hE : FX x53 D m E) : S53_0 D m = e53_0 (E c53_e []) := by unfold S53_0; rw [hE c53_e]; kernel_rfl
theorem X53 : XTie S53 x53 := X_of fun D m E hE args h u => by unfold S53; rw [T53_0 hE]; kernel_rfl
/- 74 -/
def c74_e : XC := (.sO [.mv p4 (.c (.str [])) .s] (.seq (.seq (.oX [.mv p7 q0 .s, .bn p8 .eql q7 (.c (.str [])) .b, .mv p9 q8 .b, .ge p9 (XL.of [.G p9 false p10 (.mov q1) .s, .G p9 false p11 (.bin .eql q10 (.c (.str []))) .b, .P p12 (.pick q9 (cb true) q11) .b]) p12 .b]) (.cond q12 (.seq (.oX [.mv p13 q0 .s, .mv p4 q13 .s]) .ret) .skip)) (.seq (.seq (.oX [.mv p14 q1 .s, .P p15 (.lens q14) tI, .bn p16 .eql q15 (ci 1) .b, .mv p17 q16 .b, .ge p17 (XL.of [.G p17 true p18 (.mov q1) .s, .G p17 true p19 (.idxs q18 (ci 0)) tC, .G p17 true p20 (.bin .lss q19 (.c (.int .u8 (.ofNat 128)))) .b, .P p21 (.pick q17 q20 (cb false)) .b]) p21 .b]) (.cond q21 (.seq (.oX [.mv p22 q0 .s, .mv p23 q1 .s, .P p24 (.idxs q23 (ci 0)) tC, .cl p25 93 [q22, q24] .s, .mv p4 q25 .s]) .ret) .skip)) (.seq (.seq (.oX [.mv p27 q1 .s, .cl p28 94 [q27] .v, .mv p26 q28 .v, .P p29 (.ext q26 0) .v, .P p30 (.ext q26 1) .b, .al p5 (.new [(.bool false), (.bool false), (.bool false), (.bool false), (.bool false), (.bool false), (.bool false), (.bool false), (.bool false), (.bool false), (.bool false), (.bool false), (.bool false), (.bool false), (.bool false), (.bool false), (.bool false), (.bool false), (.bool false), (.bool false), (.bool false), (.bool false), (.bool false), (.bool false), (.bool false), (.bool false), (.bool false), (.bool false), (.bool false), (.bool false), (.bool false), (.bool false), (.bool false), (.bool false), (.bool false), (.bool false), (.bool false), (.bool false), (.bool false), (.bool false), (.bool false), (.bool false), (.bool false), (.bool false), (.bool false), (.bool false), (.bool false), (.bool false), (.bool false), (.bool false), (.bool false), (.bool false), (.bool false), (.bool false), (.bool false), (.bool false), (.bool false), (.bool false), (.bool false), (.bool false), (.bool false), (.bool false), (.bool false), (.bool false), (.bool false), (.bool false), (.bool false), (.bool false), (.bool false), (.bool false), (.bool false), (.bool false), (.bool false), (.bool false), (.bool false), (.bool false), (.bool false), (.bool false), (.bool false), (.bool false), (.bool false), (.bool false), (.bool false), (.bool false), (.bool false), (.bool false), (.bool false), (.bool false), (.bool false), (.bool false), (.bool false), (.bool false), (.bool false), (.bool false), (.bool false), (.bool false), (.bool false), (.bool false), (.bool false), (.bool false), (.bool false), (.bool false), (.bool false), (.bool false), (.bool false), (.bool false), (.bool false), (.bool false), (.bool false), (.bool false), (.bool false), (.bool false), (.bool false), (.bool false), (.bool false), (.bool false), (.bool false), (.bool false), (.bool false), (.bool false), (.bool false), (.bool false), (.bool false), (.bool false), (.bool false), (.bool false), (.bool false), (.bool false), (.bool false), (.bool false), (.bool false), (.bool false), (.bool false), (.bool false), (.bool false), (.bool false), (.bool false), (.bool false), (.bool false), (.bool false), (.bool false), (.bool false), (.bool false), (.bool false), (.bool false), (.bool false), (.bool false), (.bool false), (.bool false), (.bool false), (.bool false), (.bool false), (.bool false), (.bool false), (.bool false), (.bool false), (.bool false), (.bool false), (.bool false), (.bool false), (.bool false), (.bool false), (.bool false), (.bool false), (.bool false), (.bool false), (.bool false), (.bool false), (.bool false), (.bool false), (.bool false), (.bool false), (.bool false), (.bool false), (.bool false), (.bool false), (.bool false), (.bool false), (.bool false), (.bool false), (.bool false), (.bool false), (.bool false), (.bool false), (.bool false), (.bool false), (.bool false), (.bool false), (.bool false), (.bool false), (.bool false), (.bool false), (.bool false), (.bool false), (.bool false), (.bool false), (.bool false), (.bool false), (.bool false), (.bool false), (.bool false), (.bool false), (.bool false), (.bool false), (.bool false), (.bool false), (.bool false), (.bool false), (.bool false), (.bool false), (.bool false), (.bool false), (.bool false), (.bool false), (.bool false), (.bool false), (.bool false), (.bool false), (.bool false), (.bool false), (.bool false), (.bool false), (.bool false), (.bool false), (.bool false), (.bool false), (.bool false), (.bool false), (.bool false), (.bool false), (.bool false), (.bool false), (.bool false), (.bool false), (.bool false), (.bool false), (.bool false), (.bool false), (.bool false), (.bool false), (.bool false), (.bool false), (.bool false), (.bool false), (.bool false), (.bool false), (.bool false), (.bool false), (.bool false), (.bool false), (.bool false), (.bool false), (.bool false), (.bool false), (.bool false), (.bool false)]), .ss 256 q5 q29, .mv p6 q30 .b]) (.seq (.oX [.mv p31 q6 .b]) (.cond q31 (.seq (.oX [.mv p32 q0 .s, .cl p33 95 [q32, q5] .s, .mv p4 q33 .s]) .ret) .skip))) (.sO [.mv p34 q0 .s, .mv p35 q1 .s, .cl p36 96 [q34, q35] .s, .mv p4 q36 .s] (.s .ret))))))
def x74 : XFn := ⟨[.s, .s], false, [(.tmp p4)], c74_e⟩
def e74_0 (k t0 t1 h) := kN k [(p0, (vS t0)), (p1, (vS t1))] h
def S74_0 (D : CallD) (m : Nat) (t0 t1 : LN) (h : HP) : Res2 :=
 let t8 := eqL t0 ([] : LN)
 obB (brV t8 (
 some (vB true)) (
 let t11 := eqL t1 ([] : LN)
 some (vB t11))) fun t12 =>
 br t12 (
 some (.ret (vS t0) h, .no)) (
 let t15 := Int.ofNat (lenL t1)
 let t16 := eqQ t15 (Int.ofNat 1)
 obB (brV t16 (
 ixCV (vS t1) (vI (Int.ofNat 0)) fun vt19 => asIV .u8 vt19 fun t19 =>
 let t20 := ltQ t19 (Int.ofNat 128)
 some (vB t20)) (
 some (vB false))) fun t21 =>
 br t21 (
 ixC (vS t1) (vI (Int.ofNat 0)) fun vt24 => asI .u8 vt24 fun t24 =>
 cal D 93 [(vS t0), (vC t24)] h fun t25 h1 =>
 asS t25 fun t25a =>
 some (.ret (vS t25a) h1, .no)) (
 cal D 94 [(vS t1)] h fun t28 h2 =>
 extC t28 0 fun t29 =>
 extC t28 1 fun vt30 => asB vt30 fun t30 =>
 let t5 := AV.ptr (HP.nxQ h2) 0
 let h3 := HP.newQ h2 (.cells true [(.bool false), (.bool false), (.bool false), (.bool false), (.bool false), (.bool false), (.bool false), (.bool false), (.bool false), (.bool false), (.bool false), (.bool false), (.bool false), (.bool false), (.bool false), (.bool false), (.bool false), (.bool false), (.bool false), (.bool false), (.bool false), (.bool false), (.bool false), (.bool false), (.bool false), (.bool false), (.bool false), (.bool false), (.bool false), (.bool false), (.bool false), (.bool false), (.bool false), (.bool false), (.bool false), (.bool false), (.bool false), (.bool false), (.bool false), (.bool false), (.bool false), (.bool false), (.bool false), (.bool false), (.bool false), (.bool false), (.bool false), (.bool false), (.bool false), (.bool false), (.bool false), (.bool false), (.bool false), (.bool false), (.bool false), (.bool false), (.bool false), (.bool false), (.bool false), (.bool false), (.bool false), (.bool false), (.bool false), (.bool false), (.bool false), (.bool false), (.bool false), (.bool false), (.bool false), (.bool false), (.bool false), (.bool false), (.bool false), (.bool false), (.bool false), (.bool false), (.bool false), (.bool false), (.bool false), (.bool false), (.bool false), (.bool false), (.bool false), (.bool false), (.bool false), (.bool false), (.bool false), (.bool false), (.bool false), (.bool false), (.bool false), (.bool false), (.bool false), (.bool false), (.bool false), (.bool false), (.bool false), (.bool false), (.bool false), (.bool false), (.bool false), (.bool false), (.bool false), (.bool false), (.bool false), (.bool false), (.bool false), (.bool false), (.bool false), (.bool false), (.bool false), (.bool false), (.bool false), (.bool false), (.bool false), (.bool false), (.bool false), (.bool false), (.bool false), (.bool false), (.bool false), (.bool false), (.bool false), (.bool false), (.bool false), (.bool false), (.bool false), (.bool false), (.bool false), (.bool false), (.bool false), (.bool false), (.bool false), (.bool false), (.bool false), (.bool false), (.bool false), (.bool false), (.bool false), (.bool false), (.bool false), (.bool false), (.bool false), (.bool false), (.bool false), (.bool false), (.bool false), (.bool false), (.bool false), (.bool false), (.bool false), (.bool false), (.bool false), (.bool false), (.bool false), (.bool false), (.bool false), (.bool false), (.bool false), (.bool false), (.bool false), (.bool false), (.bool false), (.bool false), (.bool false), (.bool false), (.bool false), (.bool false), (.bool false), (.bool false), (.bool false), (.bool false), (.bool false), (.bool false), (.bool false), (.bool false), (.bool false), (.bool false), (.bool false), (.bool false), (.bool false), (.bool false), (.bool false), (.bool false), (.bool false), (.bool false), (.bool false), (.bool false), (.bool false), (.bool false), (.bool false), (.bool false), (.bool false), (.bool false), (.bool false), (.bool false), (.bool false), (.bool false), (.bool false), (.bool false), (.bool false), (.bool false), (.bool false), (.bool false), (.bool false), (.bool false), (.bool false), (.bool false), (.bool false), (.bool false), (.bool false), (.bool false), (.bool false), (.bool false), (.bool false), (.bool false), (.bool false), (.bool false), (.bool false), (.bool false), (.bool false), (.bool false), (.bool false), (.bool false), (.bool false), (.bool false), (.bool false), (.bool false), (.bool false), (.bool false), (.bool false), (.bool false), (.bool false), (.bool false), (.bool false), (.bool false), (.bool false), (.bool false), (.bool false), (.bool false), (.bool false), (.bool false), (.bool false), (.bool false), (.bool false), (.bool false), (.bool false), (.bool false), (.bool false), (.bool false), (.bool false), (.bool false), (.bool false), (.bool false), (.bool false), (.bool false)])
 stsC 256 t5 t29 h3 fun h4 =>
 br t30 (
 cal D 95 [(vS t0), t5] h4 fun t33 h5 =>
 asS t33 fun t33a =>
 some (.ret (vS t33a) h5, .no)) (
 cal D 96 [(vS t0), (vS t1)] h4 fun t36 h6 =>
 asS t36 fun t36a =>
 some (.ret (vS t36a) h6, .no))))
def S74 : SFn := fun D m args h u => nou u <| popS args fun t0 args => popS args fun t1 args => endA args (S74_0 D m t0 t1 h)
theorem T74_0 (hE : FX x74 D m E) : S74_0 D m = e74_0 (E c74_e []) := by unfold S74_0; rw [hE c74_e]; kernel_rfl
theorem X74 : XTie S74 x74 := X_of fun D m E hE args h u => by unfold S74; rw [T74_0 hE]; kernel_rfl
/- 75 -/
def c75_e : XC := (.sO [.mv p4 (.c (.str [])) .s, .mv p5 (cb false) .b] (.seq (.seq (.oX [.mv p6 q0 .s, .mv p7 q1 .s, .cl p8 90 [q6, q7] .b, .P p9 (.un .not q8) .b]) (.cond q9 (.seq (.oX [.mv p10 q0 .s, .mv p4 q10 .s, .mv p5 (cb false) .b]) .ret) .skip)) (.sO [.mv p11 q0 .s, .mv p12 q1 .s, .P p13 (.lens q12) tI, .P p14 (.slice .str q11 (some q13) none none) .s, .mv p4 q14 .s, .mv p5 (cb true) .b] (.s .ret))))
def x75 : XFn := ⟨[.s, .s], false, [(.tmp p4), (.tmp p5)], c75_e⟩
def e75_0 (k t0 t1 h) := kN k [(p0, (vS t0)), (p1, (vS t1))] h
def S75_0 (D : CallD) (m : Nat) (t0 t1 : LN) (h : HP) : Res2 :=
 cal D 90 [(vS t0), (vS t1)] h fun t8 h1 =>
 asB t8 fun t8a =>
 let t9 := !t8a
 br t9 (
 some (.ret (.tup [(vS t0), (vB false)]) h1, .no)) (
 let t13 := Int.ofNat (lenL t1)
 slC (vS t0) (some (vI t13)) none fun vt14 => asS vt14 fun t14 =>
 some (.ret (.tup [(vS t14), (vB true)]) h1, .no))
def S75 : SFn := fun D m args h u => nou u <| popS args fun t0 args => popS args fun t1 args => endA args (S75_0 D m t0 t1 h)
theorem T75_0 (hE : FX x75 D m E) : S75_0 D m = e75_0 (E c75_e []) := by unfold S75_0; rw [hE c75_e]; kernel_rfl
theorem X75 : XTie S75 x75 := X_of fun D m E hE args h u => by unfold S75; rw [T75_0 hE]; kernel_rfl
/- 76 -/
def c76_e : XC := (.sO [.mv p4 (.c (.flt .f64 0)) .v, .mv p5 (.c .nili) .v] (.sO [.mv p10 q0 .s, .mv p11 q1 tI, .cl p12 97 [q10, q11] .v, .mv p9 q12 .v, .P p13 (.ext q9 0) .v, .P p14 (.ext q9 1) tI, .P p15 (.ext q9 2) .v, .mv p6 q13 .v, .mv p7 q14 tI, .mv p8 q15 .v] (.seq (.seq (.oX [.mv p16 q7 tI, .mv p17 q0 .s, .P p18 (.lens q17) tI, .bn p19 .neq q16 q18 .b]) (.cond q19 (.seq (.oX [.P p20 (.mkif 121 (ci 2)) .v, .mv p4 (.c (.flt .f64 0)) .v, .mv p5 q20 .v]) .ret) .skip)) (.sO [.mv p21 q6 .v, .mv p22 q8 .v, .mv p4 q21 .v, .mv p5 q22 .v] (.s .ret)))))
def x76 : XFn := ⟨[.s, tI], false, [(.tmp p4), (.tmp p5)], c76_e⟩
def e76_0 (k t0 t1 h) := kN k [(p0, (vS t0)), (p1, (vI t1))] h
def S76_0 (D : CallD) (m : Nat) (t0 : LN) (t1 : Int) (h : HP) : Res2 :=
 cal D 97 [(vS t0), (vI t1)] h fun t12 h1 =>
 extC t12 0 fun t13 =>
 extC t12 1 fun vt14 => asI .i64 vt14 fun t14 =>
 extC t12 2 fun t15 =>
 let t18 := Int.ofNat (lenL t0)
 let t19 := notQ (eqQ t14 t18)
 br t19 (
 let t20 := (AV.iface 121 (vI (Int.ofNat 2)))
 some (.ret (.tup [((.flt .f64 0) : AV), t20]) h1, .no)) (
 some (.ret (.tup [t13, t15]) h1, .no))
def S76 : SFn := fun D m args h u => nou u <| popS args fun t0 args => popI .i64 args fun t1 args => endA args (S76_0 D m t0 t1 h)
theorem T76_0 (hE : FX x76 D m E) : S76_0 D m = e76_0 (E c76_e []) := by unfold S76_0; rw [hE c76_e]; kernel_rfl
theorem X76 : XTie S76 x76 := X_of fun D m E hE args h u => by unfold S76; rw [T76_0 hE]; kernel_rfl
/- 90 -/
def c90_e : XC := (.sO [.mv p4 (cb false) .b] (.sO [.mv p5 q0 .s, .P p6 (.lens q5) tI, .mv p7 q1 .s, .P p8 (.lens q7) tI, .bn p9 .geq q6 q8 .b, .mv p10 q9 .b, .ge p10 (XL.of [.G p10 true p11 (.mov q0) .s, .G p10 true p12 (.mov q1) .s, .G p10 true p13 (.lens q12) tI, .G p10 true p14 (.slice .str q11 none (some q13) none) .s, .G p10 true p15 (.mov q1) .s, .G p10 true p16 (.bin .eql q14 q15) .b, .P p17 (.pick q10 q16 (cb false)) .b]) p17 .b, .mv p4 q17 .b] (.s .ret)))
def x90 : XFn := ⟨[.s, .s], false, [(.tmp p4)], c90_e⟩
def e90_0 (k t0 t1 h) := kN k [(p0, (vS t0)), (p1, (vS t1))] h
def S90_0 (D : CallD) (m : Nat) (t0 t1 : LN) (h : HP) : Res2 :=
 let t6 := Int.ofNat (lenL t0)
 let t8 := Int.ofNat (lenL t1)
 let t9 := leQ t8 t6
 obB (brV t9 (
 let t13 := Int.ofNat (lenL t1)
 slCV (vS t0) none (some (vI t13)) fun vt14 => asSV vt14 fun t14 =>
 let t16 := eqL t14 t1
 some (vB t16)) (
 some (vB false))) fun t17 =>
 some (.ret (vB t17) h, .no)
def S90 : SFn := fun D m args h u => nou u <| popS args fun t0 args => popS args fun t1 args => endA args (S90_0 D m t0 t1 h)
theorem T90_0 (hE : FX x90 D m E) : S90_0 D m = e90_0 (E c90_e []) := by unfold S90_0; rw [hE c90_e]; kernel_rfl
theorem X90 : XTie S90 x90 := X_of fun D m E hE args h u => by unfold S90; rw [T90_0 hE]; kernel_rfl
/- 94 -/
def v94_0 : List Pos := [p2]
def c94_0 : XC := (.sO [.L p20 (.cells 256 q2) .v, .ss 256 q2 q20, .mv p3 (cb true) .b] (.s .ret))
def v94_1 : List Pos := [p0, p2, p4]
def c94_1b : XC := (.seq (.seq (.oX [.mv p6 q4 tI, .mv p7 q0 .s, .P p8 (.lens q7) tI, .bn p9 .lss q6 q8 .b]) (.cond q9 .skip (.exit 0))) (.seq (.block 1 (.seq (.oX [.mv p12 q0 .s, .mv p13 q4 tI, .P p14 (.idxs q12 q13) tC, .mv p5 q14 tC]) (.seq (.seq (.oX [.mv p15 q5 tC, .bn p16 .geq q15 (.c (.int .u8 (.ofNat 128))) .b]) (.cond q16 (.seq (.oX [.L p17 (.cells 256 q2) .v, .ss 256 q2 q17, .mv p3 (cb false) .b]) .ret) .skip)) (.oX [.mv p18 q5 tC, .P p19 (.iaddr (.arr 256 1) q2 q18) .v, .st q19 (cb true)])))) (.s (.oX [.mv p10 q4 tI, .bn p11 .add q10 (ci 1) tI, .mv p4 q11 tI]))))
def c94_e : XC := (.sO [.al p2 (.new [(.bool false), (.bool false), (.bool false), (.bool false), (.bool false), (.bool false), (.bool false), (.bool false), (.bool false), (.bool false), (.bool false), (.bool false), (.bool false), (.bool false), (.bool false), (.bool false), (.bool false), (.bool false), (.bool false), (.bool false), (.bool false), (.bool false), (.bool false), (.bool false), (.bool false), (.bool false), (.bool false), (.bool false), (.bool false), (.bool false), (.bool false), (.bool false), (.bool false), (.bool false), (.bool false), (.bool false), (.bool false), (.bool false), (.bool false), (.bool false), (.bool false), (.bool false), (.bool false), (.bool false), (.bool false), (.bool false), (.bool false), (.bool false), (.bool false), (.bool false), (.bool false), (.bool false), (.bool false), (.bool false), (.bool false), (.bool false), (.bool false), (.bool false), (.bool false), (.bool false), (.bool false), (.bool false), (.bool false), (.bool false), (.bool false), (.bool false), (.bool false), (.bool false), (.bool false), (.bool false), (.bool false), (.bool false), (.bool false), (.bool false), (.bool false), (.bool false), (.bool false), (.bool false), (.bool false), (.bool false), (.bool false), (.bool false), (.bool false), (.bool false), (.bool false), (.bool false), (.bool false), (.bool false), (.bool false), (.bool false), (.bool false), (.bool false), (.bool false), (.bool false), (.bool false), (.bool false), (.bool false), (.bool false), (.bool false), (.bool false), (.bool false), (.bool false), (.bool false), (.bool false), (.bool false), (.bool false), (.bool false), (.bool false), (.bool false), (.bool false), (.bool false), (.bool false), (.bool false), (.bool false), (.bool false), (.bool false), (.bool false), (.bool false), (.bool false), (.bool false), (.bool false), (.bool false), (.bool false), (.bool false), (.bool false), (.bool false), (.bool false), (.bool false), (.bool false), (.bool false), (.bool false), (.bool false), (.bool false), (.bool false), (.bool false), (.bool false), (.bool false), (.bool false), (.bool false), (.bool false), (.bool false), (.bool false), (.bool false), (.bool false), (.bool false), (.bool false), (.bool false), (.bool false), (.bool false), (.bool false), (.bool false), (.bool false), (.bool false), (.bool false), (.bool false), (.bool false), (.bool false), (.bool false), (.bool false), (.bool false), (.bool false), (.bool false), (.bool false), (.bool false), (.bool false), (.bool false), (.bool false), (.bool false), (.bool false), (.bool false), (.bool false), (.bool false), (.bool false), (.bool false), (.bool false), (.bool false), (.bool false), (.bool false), (.bool false), (.bool false), (.bool false), (.bool false), (.bool false), (.bool false), (.bool false), (.bool false), (.bool false), (.bool false), (.bool false), (.bool false), (.bool false), (.bool false), (.bool false), (.bool false), (.bool false), (.bool false), (.bool false), (.bool false), (.bool false), (.bool false), (.bool false), (.bool false), (.bool false), (.bool false), (.bool false), (.bool false), (.bool false), (.bool false), (.bool false), (.bool false), (.bool false), (.bool false), (.bool false), (.bool false), (.bool false), (.bool false), (.bool false), (.bool false), (.bool false), (.bool false), (.bool false), (.bool false), (.bool false), (.bool false), (.bool false), (.bool false), (.bool false), (.bool false), (.bool false), (.bool false), (.bool false), (.bool false), (.bool false), (.bool false), (.bool false), (.bool false), (.bool false), (.bool false), (.bool false), (.bool false), (.bool false), (.bool false), (.bool false), (.bool false), (.bool false), (.bool false), (.bool false), (.bool false), (.bool false), (.bool false), (.bool false), (.bool false), (.bool false), (.bool false), (.bool false), (.bool false)]), .mv p3 (cb false) .b] (.sj v94_0 (.sO [.mv p4 (ci 0) tI] (.block 0 (.loop v94_1 c94_1b))) c94_0))
def x94 : XFn := ⟨[.s], false, [(.cells 256 p2), (.tmp p3)], c94_e⟩
def e94_0 (k t2 h) := kN k [(p2, t2)] h
def S94_0 (D : CallD) (m : Nat) (t2 : AV) (h : HP) : Res2 :=
 cellsC 256 t2 h fun t20 =>
 stsC 256 t2 t20 h fun h4 =>
 cellsC 256 t2 h4 fun t2a =>
 some (.ret (.tup [t2a, (vB true)]) h4, .no)
def e94_1 (k t0 t2 t4 h) := kN k [(p0, (vS t0)), (p2, t2), (p4, (vI t4))] h
def S94_1b (D : CallD) (m : Nat) (g1 : LN → AV → Int → HP → Res2) (t0 : LN) (t2 : AV) (t4 : Int) (h : HP) : Res2 :=
 let t8 := Int.ofNat (lenL t0)
 let t9 := ltQ t4 t8
 br t9 (
 ixC (vS t0) (vI t4) fun vt14 => asI .u8 vt14 fun t14 =>
 let t16 := leQ (Int.ofNat 128) t14
 br t16 (
 cellsC 256 t2 h fun t17 =>
 stsC 256 t2 t17 h fun h5 =>
 cellsC 256 t2 h5 fun t2a =>
 some (.ret (.tup [t2a, (vB false)]) h5, .no)) (
 iarC 256 1 t2 (vC t14) fun t19 =>
 stoC t19 (vB true) h fun h6 =>
 let t11 := wrQ .i64 (addQ t4 (Int.ofNat 1))
 g1 t0 t2 t11 h6)) (
 S94_0 D m t2 h)
def S94_1 (D : CallD) (m : Nat) : LN → AV → Int → HP → Res2 := nrec (fun _ _ _ _ => none) (fun _ g => S94_1b D m g) m
def e94_2 (k t0 h) := kN k [(p0, (vS t0))] h
def S94_2 (D : CallD) (m : Nat) (t0 : LN) (h : HP) : Res2 :=
 let t2 := AV.ptr (HP.nxQ h) 0
 let h3 := HP.newQ h (.cells true [(.bool false), (.bool false), (.bool false), (.bool false), (.bool false), (.bool false), (.bool false), (.bool false), (.bool false), (.bool false), (.bool false), (.bool false), (.bool false), (.bool false), (.bool false), (.bool false), (.bool false), (.bool false), (.bool false), (.bool false), (.bool false), (.bool false), (.bool false), (.bool false), (.bool false), (.bool false), (.bool false), (.bool false), (.bool false), (.bool false), (.bool false), (.bool false), (.bool false), (.bool false), (.bool false), (.bool false), (.bool false), (.bool false), (.bool false), (.bool false), (.bool false), (.bool false), (.bool false), (.bool false), (.bool false), (.bool false), (.bool false), (.bool false), (.bool false), (.bool false), (.bool false), (.bool false), (.bool false), (.bool false), (.bool false), (.bool false), (.bool false), (.bool false), (.bool false), (.bool false), (.bool false), (.bool false), (.bool false), (.bool false), (.bool false), (.bool false), (.bool false), (.bool false), (.bool false), (.bool false), (.bool false), (.bool false), (.bool false), (.bool false), (.bool false), (.bool false), (.bool false), (.bool false), (.bool false), (.bool false), (.bool false), (.bool false), (.bool false), (.bool false), (.bool false), (.bool false), (.bool false), (.bool false), (.bool false), (.bool false), (.bool false), (.bool false), (.bool false), (.bool false), (.bool false), (.bool false), (.bool false), (.bool false), (.bool false), (.bool false), (.bool false), (.bool false), (.bool false), (.bool false), (.bool false), (.bool false), (.bool false), (.bool false), (.bool false), (.bool false), (.bool false), (.bool false), (.bool false), (.bool false), (.bool false), (.bool false), (.bool false), (.bool false), (.bool false), (.bool false), (.bool false), (.bool false), (.bool false), (.bool false), (.bool false), (.bool false), (.bool false), (.bool false), (.bool false), (.bool false), (.bool false), (.bool false), (.bool false), (.bool false), (.bool false), (.bool false), (.bool false), (.bool false), (.bool false), (.bool false), (.bool false), (.bool false), (.bool false), (.bool false), (.bool false), (.bool false), (.bool false), (.bool false), (.bool false), (.bool false), (.bool false), (.bool false), (.bool false), (.bool false), (.bool false), (.bool false), (.bool false), (.bool false), (.bool false), (.bool false), (.bool false), (.bool false), (.bool false), (.bool false), (.bool false), (.bool false), (.bool false), (.bool false), (.bool false), (.bool false), (.bool false), (.bool false), (.bool false), (.bool false), (.bool false), (.bool false), (.bool false), (.bool false), (.bool false), (.bool false), (.bool false), (.bool false), (.bool false), (.bool false), (.bool false), (.bool false), (.bool false), (.bool false), (.bool false), (.bool false), (.bool false), (.bool false), (.bool false), (.bool false), (.bool false), (.bool false), (.bool false), (.bool false), (.bool false), (.bool false), (.bool false), (.bool false), (.bool false), (.bool false), (.bool false), (.bool false), (.bool false), (.bool false), (.bool false), (.bool false), (.bool false), (.bool false), (.bool false), (.bool false), (.bool false), (.bool false), (.bool false), (.bool false), (.bool false), (.bool false), (.bool false), (.bool false), (.bool false), (.bool false), (.bool false), (.bool false), (.bool false), (.bool false), (.bool false), (.bool false), (.bool false), (.bool false), (.bool false), (.bool false), (.bool false), (.bool false), (.bool false), (.bool false), (.bool false), (.bool false), (.bool false), (.bool false), (.bool false), (.bool false), (.bool false), (.bool false), (.bool false), (.bool false), (.bool false), (.bool false), (.bool false), (.bool false), (.bool false), (.bool false), (.bool false), (.bool false)])
 S94_1 D m t0 t2 (Int.ofNat 0) h3
def S94 : SFn := fun D m args h u => nou u <| popS args fun t0 args => endA args (S94_2 D m t0 h)
theorem T94_0 (hE : FX x94 D m E) : S94_0 D m = e94_0 (E c94_0 []) := by unfold S94_0; rw [hE c94_0]; kernel_rfl
theorem T94_1b (hE : FX x94 D m E) (G1) : S94_1b D m (e94_1 G1) = e94_1 (E c94_1b [.lp v94_1 G1, .blk 0, .sj v94_0 c94_0]) := by unfold S94_1b; rw [T94_0 hE, hE c94_1b]; kernel_rfl
theorem T94_1 (hE : FX x94 D m E) : S94_1 D m = e94_1 (nrec (fun _ => none) (fun _ G1 st => E c94_1b [.lp v94_1 G1, .blk 0, .sj v94_0 c94_0] st) m) :=
  nrec_emb e94_1 (fun _ _ _ _ => none) (fun g => S94_1b D m g) (fun G1 st => E c94_1b [.lp v94_1 G1, .blk 0, .sj v94_0 c94_0] st) rfl (fun g => T94_1b hE g) m
theorem T94_2 (hE : FX x94 D m E) : S94_2 D m = e94_2 (E c94_e []) := by unfold S94_2; rw [T94_1 hE, hE c94_e]; kernel_rfl
theorem X94 : XTie S94 x94 := X_of fun D m E hE args h u => by unfold S94; rw [T94_2 hE]; kernel_rfl
/- 95 -/
def v95_0 : List Pos := [p0]
def c95_0 : XC := (.sO [.mv p15 q0 .s, .mv p4 q15 .s] (.s .ret))
def v95_1 : List Pos := [p0, p1]
def c95_1b : XC := (.seq (.seq (.oX [.mv p5 q0 .s, .P p6 (.lens q5) tI, .bn p7 .gtr q6 (ci 0) .b]) (.cond q7 .skip (.exit 0))) (.block 1 (.seq (.seq (.oX [.mv p8 q1 .v, .mv p9 q0 .s, .P p10 (.idxs q9 (ci 0)) tC, .cl p11 111 [q8, q10] .b, .P p12 (.un .not q11) .b]) (.cond q12 (.exit 0) .skip)) (.s (.oX [.mv p13 q0 .s, .P p14 (.slice .str q13 (some (ci 1)) none none) .s, .mv p0 q14 .s])))))
def c95_e : XC := (.sO [.mv p4 (.c (.str [])) .s] (.sj v95_0 (.block 0 (.loop v95_1 c95_1b)) c95_0))
def x95 : XFn := ⟨[.s, .v], false, [(.tmp p4)], c95_e⟩
def e95_0 (k t0 h) := kN k [(p0, (vS t0))] h
def S95_0 (D : CallD) (m : Nat) (t0 : LN) (h : HP) : Res2 :=
 some (.ret (vS t0) h, .no)
def e95_1 (k t0 t1 h) := kN k [(p0, (vS t0)), (p1, t1)] h
def S95_1b (D : CallD) (m : Nat) (g1 : LN → AV → HP → Res2) (t0 : LN) (t1 : AV) (h : HP) : Res2 :=
 let t6 := Int.ofNat (lenL t0)
 let t7 := ltQ (Int.ofNat 0) t6
 br t7 (
 ixC (vS t0) (vI (Int.ofNat 0)) fun vt10 => asI .u8 vt10 fun t10 =>
 cal D 111 [t1, (vC t10)] h fun t11 h3 =>
 asB t11 fun t11a =>
 let t12 := !t11a
 br t12 (
 S95_0 D m t0 h3) (
 slC (vS t0) (some (vI (Int.ofNat 1))) none fun vt14 => asS vt14 fun t14 =>
 g1 t14 t1 h3)) (
 S95_0 D m t0 h)
def S95_1 (D : CallD) (m : Nat) : LN → AV → HP → Res2 := nrec (fun _ _ _ => none) (fun _ g => S95_1b D m g) m
def e95_2 (k t0 t1 h) := kN k [(p0, (vS t0)), (p1, t1)] h
def S95_2 (D : CallD) (m : Nat) (t0 : LN) (t1 : AV) (h : HP) : Res2 :=
 S95_1 D m t0 t1 h
def S95 : SFn := fun D m args h u => nou u <| popS args fun t0 args => popV args fun t1 args => endA args (S95_2 D m t0 t1 h)
theorem T95_0 (hE : FX x95 D m E) : S95_0 D m = e95_0 (E c95_0 []) := by unfold S95_0; rw [hE c95_0]; kernel_rfl
theorem T95_1b (hE : FX x95 D m E) (G1) : S95_1b D m (e95_1 G1) = e95_1 (E c95_1b [.lp v95_1 G1, .blk 0, .sj v95_0 c95_0]) := by unfold S95_1b; rw [T95_0 hE, hE c95_1b]; kernel_rfl
theorem T95_1 (hE : FX x95 D m E) : S95_1 D m = e95_1 (nrec (fun _ => none) (fun _ G1 st => E c95_1b [.lp v95_1 G1, .blk 0, .sj v95_0 c95_0] st) m) :=
  nrec_emb e95_1 (fun _ _ _ => none) (fun g => S95_1b D m g) (fun G1 st => E c95_1b [.lp v95_1 G1, .blk 0, .sj v95_0 c95_0] st) rfl (fun g => T95_1b hE g) m
theorem T95_2 (hE : FX x95 D m E) : S95_2 D m = e95_2 (E c95_e []) := by unfold S95_2; rw [T95_1 hE, hE c95_e]; kernel_rfl
theorem X95 : XTie S95 x95 := X_of fun D m E hE args h u => by unfold S95; rw [T95_2 hE]; kernel_rfl
/- 97 -/
def c97_e : XC := (.sO [.mv p4 (.c (.flt .f64 0)) .v, .mv p5 (ci 0) tI, .mv p6 (.c .nili) .v] (.seq (.seq (.oX [.mv p10 q1 tI, .bn p11 .eql q10 (ci 32) .b]) (.cond q11 (.seq (.oX [.mv p13 q0 .s, .cl p14 114 [q13] .v, .mv p12 q14 .v, .P p15 (.ext q12 0) .v, .P p16 (.ext q12 1) tI, .P p17 (.ext q12 2) .v, .mv p7 q15 .v, .mv p8 q16 tI, .mv p9 q17 .v]) (.seq (.oX [.mv p18 q7 .v, .o ⟨(some p19), .bad, none, []⟩ .v, .mv p20 q8 tI, .mv p21 q9 .v, .mv p4 q19 .v, .mv p5 q20 tI, .mv p6 q21 .v]) .ret)) .skip)) (.sO [.mv p22 q0 .s, .cl p23 115 [q22] .v, .P p24 (.ext q23 0) .v, .P p25 (.ext q23 1) tI, .P p26 (.ext q23 2) .v, .mv p4 q24 .v, .mv p5 q25 tI, .mv p6 q26 .v] (.s .ret))))
def x97 : XFn := ⟨[.s, tI], false, [(.tmp p4), (.tmp p5), (.tmp p6)], c97_e⟩
def e97_0 (k t0 t1 h) := kN k [(p0, (vS t0)), (p1, (vI t1))] h
def S97_0 (D : CallD) (m : Nat) (t0 : LN) (t1 : Int) (h : HP) : Res2 :=
 let t11 := eqQ t1 (Int.ofNat 32)
 br t11 (
 cal D 114 [(vS t0)] h fun t14 h1 =>
 extC t14 0 fun t15 =>
 extC t14 1 fun vt16 => asI .i64 vt16 fun t16 =>
 extC t14 2 fun t17 =>
 none) (
 cal D 115 [(vS t0)] h fun t23 h2 =>
 extC t23 0 fun t24 =>
 extC t23 1 fun vt25 => asI .i64 vt25 fun t25 =>
 extC t23 2 fun t26 =>
 some (.ret (.tup [t24, (vI t25), t26]) h2, .no))
def S97 : SFn := fun D m args h u => nou u <| popS args fun t0 args => popI .i64 args fun t1 args => endA args (S97_0 D m t0 t1 h)
theorem T97_0 (hE : FX x97 D m E) : S97_0 D m = e97_0 (E c97_e []) := by unfold S97_0; rw [hE c97_e]; kernel_rfl
theorem X97 : XTie S97 x97 := X_of fun D m E hE args h u => by unfold S97; rw [T97_0 hE]; kernel_rfl
/- 102 -/
def c102_e : XC := (.sO [.mv p2 (.c (.int .u8 (.ofNat 0))) tC] (.sO [.mv p3 q0 tC, .bn p4 .or q3 (.c (.int .u8 (.ofNat 32))) tC, .mv p2 q4 tC] (.s .ret)))
def x102 : XFn := ⟨[tC], false, [(.tmp p2)], c102_e⟩
def e102_0 (k t0 h) := kN k [(p0, (vC t0))] h
def S102_0 (D : CallD) (m : Nat) (t0 : Int) (h : HP) : Res2 :=
 obI .u8 (intBin .or .u8 t0 (Int.ofNat 32)) fun t4 =>
 some (.ret (vC t4) h, .no)
def S102 : SFn := fun D m args h u => nou u <| popI .u8 args fun t0 args => endA args (S102_0 D m t0 h)
theorem T102_0 (hE : FX x102 D m E) : S102_0 D m = e102_0 (E c102_e []) := by unfold S102_0; rw [hE c102_e]; kernel_rfl
theorem X102 : XTie S102 x102 := X_of fun D m E hE args h u => by unfold S102; rw [T102_0 hE]; kernel_rfl
/- 111 -/
def c111_e : XC := (.sO [.mv p4 (cb false) .b] (.sO [.mv p5 q0 .v, .mv p6 q1 tC, .P p7 (.nilck q5) .v, .P p8 (.iaddr (.arr 256 1) q7 q6) .v, .ld p9 q8 .b, .mv p4 q9 .b] (.s .ret)))
def x111 : XFn := ⟨[.v, tC], false, [(.tmp p4)], c111_e⟩
def e111_0 (k t0 t1 h) := kN k [(p0, t0), (p1, (vC t1))] h
def S111_0 (D : CallD) (m : Nat) (t0 : AV) (t1 : Int) (h : HP) : Res2 :=
 nilckC t0 fun t7 =>
 iarC 256 1 t7 (vC t1) fun t8 =>
 ldB t8 h fun t9 =>
 some (.ret (vB t9) h, .no)
def S111 : SFn := fun D m args h u => nou u <| popV args fun t0 args => popI .u8 args fun t1 args => endA args (S111_0 D m t0 t1 h)
theorem T111_0 (hE : FX x111 D m E) : S111_0 D m = e111_0 (E c111_e []) := by unfold S111_0; rw [hE c111_e]; kernel_rfl
theorem X111 : XTie S111 x111 := X_of fun D m E hE args h u => by unfold S111; rw [T111_0 hE]; kernel_rfl
/- 115 -/
def v115_1 : List Pos := [p2, p3, p4]
def c115_1 : XC := (.sO [.mv p140 q2 .v, .mv p141 q3 tI, .mv p142 q4 .v, .mv p2 q140 .v, .mv p3 q141 tI, .mv p4 q142 .v] (.s .ret))
def v115_0 : List Pos := [p0, p3, p4]
def c115_0 : XC := (.sO [.al p23 (.new [(.int .u8 (.ofNat 0)), (.int .u8 (.ofNat 0)), (.int .u8 (.ofNat 0)), (.int .u8 (.ofNat 0)), (.int .u8 (.ofNat 0)), (.int .u8 (.ofNat 0)), (.int .u8 (.ofNat 0)), (.int .u8 (.ofNat 0)), (.int .u8 (.ofNat 0)), (.int .u8 (.ofNat 0)), (.int .u8 (.ofNat 0)), (.int .u8 (.ofNat 0)), (.int .u8 (.ofNat 0)), (.int .u8 (.ofNat 0)), (.int .u8 (.ofNat 0)), (.int .u8 (.ofNat 0)), (.int .u8 (.ofNat 0)), (.int .u8 (.ofNat 0)), (.int .u8 (.ofNat 0)), (.int .u8 (.ofNat 0)), (.int .u8 (.ofNat 0)), (.int .u8 (.ofNat 0)), (.int .u8 (.ofNat 0)), (.int .u8 (.ofNat 0)), (.int .u8 (.ofNat 0)), (.int .u8 (.ofNat 0)), (.int .u8 (.ofNat 0)), (.int .u8 (.ofNat 0)), (.int .u8 (.ofNat 0)), (.int .u8 (.ofNat 0)), (.int .u8 (.ofNat 0)), (.int .u8 (.ofNat 0)), (.int .u8 (.ofNat 0)), (.int .u8 (.ofNat 0)), (.int .u8 (.ofNat 0)), (.int .u8 (.ofNat 0)), (.int .u8 (.ofNat 0)), (.int .u8 (.ofNat 0)), (.int .u8 (.ofNat 0)), (.int .u8 (.ofNat 0)), (.int .u8 (.ofNat 0)), (.int .u8 (.ofNat 0)), (.int .u8 (.ofNat 0)), (.int .u8 (.ofNat 0)), (.int .u8 (.ofNat 0)), (.int .u8 (.ofNat 0)), (.int .u8 (.ofNat 0)), (.int .u8 (.ofNat 0)), (.int .u8 (.ofNat 0)), (.int .u8 (.ofNat 0)), (.int .u8 (.ofNat 0)), (.int .u8 (.ofNat 0)), (.int .u8 (.ofNat 0)), (.int .u8 (.ofNat 0)), (.int .u8 (.ofNat 0)), (.int .u8 (.ofNat 0)), (.int .u8 (.ofNat 0)), (.int .u8 (.ofNat 0)), (.int .u8 (.ofNat 0)), (.int .u8 (.ofNat 0)), (.int .u8 (.ofNat 0)), (.int .u8 (.ofNat 0)), (.int .u8 (.ofNat 0)), (.int .u8 (.ofNat 0)), (.int .u8 (.ofNat 0)), (.int .u8 (.ofNat 0)), (.int .u8 (.ofNat 0)), (.int .u8 (.ofNat 0)), (.int .u8 (.ofNat 0)), (.int .u8 (.ofNat 0)), (.int .u8 (.ofNat 0)), (.int .u8 (.ofNat 0)), (.int .u8 (.ofNat 0)), (.int .u8 (.ofNat 0)), (.int .u8 (.ofNat 0)), (.int .u8 (.ofNat 0)), (.int .u8 (.ofNat 0)), (.int .u8 (.ofNat 0)), (.int .u8 (.ofNat 0)), (.int .u8 (.ofNat 0)), (.int .u8 (.ofNat 0)), (.int .u8 (.ofNat 0)), (.int .u8 (.ofNat 0)), (.int .u8 (.ofNat 0)), (.int .u8 (.ofNat 0)), (.int .u8 (.ofNat 0)), (.int .u8 (.ofNat 0)), (.int .u8 (.ofNat 0)), (.int .u8 (.ofNat 0)), (.int .u8 (.ofNat 0)), (.int .u8 (.ofNat 0)), (.int .u8 (.ofNat 0)), (.int .u8 (.ofNat 0)), (.int .u8 (.ofNat 0)), (.int .u8 (.ofNat 0)), (.int .u8 (.ofNat 0)), (.int .u8 (.ofNat 0)), (.int .u8 (.ofNat 0)), (.int .u8 (.ofNat 0)), (.int .u8 (.ofNat 0)), (.int .u8 (.ofNat 0)), (.int .u8 (.ofNat 0)), (.int .u8 (.ofNat 0)), (.int .u8 (.ofNat 0)), (.int .u8 (.ofNat 0)), (.int .u8 (.ofNat 0)), (.int .u8 (.ofNat 0)), (.int .u8 (.ofNat 0)), (.int .u8 (.ofNat 0)), (.int .u8 (.ofNat 0)), (.int .u8 (.ofNat 0)), (.int .u8 (.ofNat 0)), (.int .u8 (.ofNat 0)), (.int .u8 (.ofNat 0)), (.int .u8 (.ofNat 0)), (.int .u8 (.ofNat 0)), (.int .u8 (.ofNat 0)), (.int .u8 (.ofNat 0)), (.int .u8 (.ofNat 0)), (.int .u8 (.ofNat 0)), (.int .u8 (.ofNat 0)), (.int .u8 (.ofNat 0)), (.int .u8 (.ofNat 0)), (.int .u8 (.ofNat 0)), (.int .u8 (.ofNat 0)), (.int .u8 (.ofNat 0)), (.int .u8 (.ofNat 0)), (.int .u8 (.ofNat 0)), (.int .u8 (.ofNat 0)), (.int .u8 (.ofNat 0)), (.int .u8 (.ofNat 0)), (.int .u8 (.ofNat 0)), (.int .u8 (.ofNat 0)), (.int .u8 (.ofNat 0)), (.int .u8 (.ofNat 0)), (.int .u8 (.ofNat 0)), (.int .u8 (.ofNat 0)), (.int .u8 (.ofNat 0)), (.int .u8 (.ofNat 0)), (.int .u8 (.ofNat 0)), (.int .u8 (.ofNat 0)), (.int .u8 (.ofNat 0)), (.int .u8 (.ofNat 0)), (.int .u8 (.ofNat 0)), (.int .u8 (.ofNat 0)), (.int .u8 (.ofNat 0)), (.int .u8 (.ofNat 0)), (.int .u8 (.ofNat 0)), (.int .u8 (.ofNat 0)), (.int .u8 (.ofNat 0)), (.int .u8 (.ofNat 0)), (.int .u8 (.ofNat 0)), (.int .u8 (.ofNat 0)), (.int .u8 (.ofNat 0)), (.int .u8 (.ofNat 0)), (.int .u8 (.ofNat 0)), (.int .u8 (.ofNat 0)), (.int .u8 (.ofNat 0)), (.int .u8 (.ofNat 0)), (.int .u8 (.ofNat 0)), (.int .u8 (.ofNat 0)), (.int .u8 (.ofNat 0)), (.int .u8 (.ofNat 0)), (.int .u8 (.ofNat 0)), (.int .u8 (.ofNat 0)), (.int .u8 (.ofNat 0)), (.int .u8 (.ofNat 0)), (.int .u8 (.ofNat 0)), (.int .u8 (.ofNat 0)), (.int .u8 (.ofNat 0)), (.int .u8 (.ofNat 0)), (.int .u8 (.ofNat 0)), (.int .u8 (.ofNat 0)), (.int .u8 (.ofNat 0)), (.int .u8 (.ofNat 0)), (.int .u8 (.ofNat 0)), (.int .u8 (.ofNat 0)), (.int .u8 (.ofNat 0)), (.int .u8 (.ofNat 0)), (.int .u8 (.ofNat 0)), (.int .u8 (.ofNat 0)), (.int .u8 (.ofNat 0)), (.int .u8 (.ofNat 0)), (.int .u8 (.ofNat 0)), (.int .u8 (.ofNat 0)), (.int .u8 (.ofNat 0)), (.int .u8 (.ofNat 0)), (.int .u8 (.ofNat 0)), (.int .u8 (.ofNat 0)), (.int .u8 (.ofNat 0)), (.int .u8 (.ofNat 0)), (.int .u8 (.ofNat 0)), (.int .u8 (.ofNat 0)), (.int .u8 (.ofNat 0)), (.int .u8 (.ofNat 0)), (.int .u8 (.ofNat 0)), (.int .u8 (.ofNat 0)), (.int .u8 (.ofNat 0)), (.int .u8 (.ofNat 0)), (.int .u8 (.ofNat 0)), (.int .u8 (.ofNat 0)), (.int .u8 (.ofNat 0)), (.int .u8 (.ofNat 0)), (.int .u8 (.ofNat 0)), (.int .u8 (.ofNat 0)), (.int .u8 (.ofNat 0)), (.int .u8 (.ofNat 0)), (.int .u8 (.ofNat 0)), (.int .u8 (.ofNat 0)), (.int .u8 (.ofNat 0)), (.int .u8 (.ofNat 0)), (.int .u8 (.ofNat 0)), (.int .u8 (.ofNat 0)), (.int .u8 (.ofNat 0)), (.int .u8 (.ofNat 0)), (.int .u8 (.ofNat 0)), (.int .u8 (.ofNat 0)), (.int .u8 (.ofNat 0)), (.int .u8 (.ofNat 0)), (.int .u8 (.ofNat 0)), (.int .u8 (.ofNat 0)), (.int .u8 (.ofNat 0)), (.int .u8 (.ofNat 0)), (.int .u8 (.ofNat 0)), (.int .u8 (.ofNat 0)), (.int .u8 (.ofNat 0)), (.int .u8 (.ofNat 0)), (.int .u8 (.ofNat 0)), (.int .u8 (.ofNat 0)), (.int .u8 (.ofNat 0)), (.int .u8 (.ofNat 0)), (.int .u8 (.ofNat 0)), (.int .u8 (.ofNat 0)), (.int .u8 (.ofNat 0)), (.int .u8 (.ofNat 0)), (.int .u8 (.ofNat 0)), (.int .u8 (.ofNat 0)), (.int .u8 (.ofNat 0)), (.int .u8 (.ofNat 0)), (.int .u8 (.ofNat 0)), (.int .u8 (.ofNat 0)), (.int .u8 (.ofNat 0)), (.int .u8 (.ofNat 0)), (.int .u8 (.ofNat 0)), (.int .u8 (.ofNat 0)), (.int .u8 (.ofNat 0)), (.int .u8 (.ofNat 0)), (.int .u8 (.ofNat 0)), (.int .u8 (.ofNat 0)), (.int .u8 (.ofNat 0)), (.int .u8 (.ofNat 0)), (.int .u8 (.ofNat 0)), (.int .u8 (.ofNat 0)), (.int .u8 (.ofNat 0)), (.int .u8 (.ofNat 0)), (.int .u8 (.ofNat 0)), (.int .u8 (.ofNat 0)), (.int .u8 (.ofNat 0)), (.int .u8 (.ofNat 0)), (.int .u8 (.ofNat 0)), (.int .u8 (.ofNat 0)), (.int .u8 (.ofNat 0)), (.int .u8 (.ofNat 0)), (.int .u8 (.ofNat 0)), (.int .u8 (.ofNat 0)), (.int .u8 (.ofNat 0)), (.int .u8 (.ofNat 0)), (.int .u8 (.ofNat 0)), (.int .u8 (.ofNat 0)), (.int .u8 (.ofNat 0)), (.int .u8 (.ofNat 0)), (.int .u8 (.ofNat 0)), (.int .u8 (.ofNat 0)), (.int .u8 (.ofNat 0)), (.int .u8 (.ofNat 0)), (.int .u8 (.ofNat 0)), (.int .u8 (.ofNat 0)), (.int .u8 (.ofNat 0)), (.int .u8 (.ofNat 0)), (.int .u8 (.ofNat 0)), (.int .u8 (.ofNat 0)), (.int .u8 (.ofNat 0)), (.int .u8 (.ofNat 0)), (.int .u8 (.ofNat 0)), (.int .u8 (.ofNat 0)), (.int .u8 (.ofNat 0)), (.int .u8 (.ofNat 0)), (.int .u8 (.ofNat 0)), (.int .u8 (.ofNat 0)), (.int .u8 (.ofNat 0)), (.int .u8 (.ofNat 0)), (.int .u8 (.ofNat 0)), (.int .u8 (.ofNat 0)), (.int .u8 (.ofNat 0)), (.int .u8 (.ofNat 0)), (.int .u8 (.ofNat 0)), (.int .u8 (.ofNat 0)), (.int .u8 (.ofNat 0)), (.int .u8 (.ofNat 0)), (.int .u8 (.ofNat 0)), (.int .u8 (.ofNat 0)), (.int .u8 (.ofNat 0)), (.int .u8 (.ofNat 0)), (.int .u8 (.ofNat 0)), (.int .u8 (.ofNat 0)), (.int .u8 (.ofNat 0)), (.int .u8 (.ofNat 0)), (.int .u8 (.ofNat 0)), (.int .u8 (.ofNat 0)), (.int .u8 (.ofNat 0)), (.int .u8 (.ofNat 0)), (.int .u8 (.ofNat 0)), (.int .u8 (.ofNat 0)), (.int .u8 (.ofNat 0)), (.int .u8 (.ofNat 0)), (.int .u8 (.ofNat 0)), (.int .u8 (.ofNat 0)), (.int .u8 (.ofNat 0)), (.int .u8 (.ofNat 0)), (.int .u8 (.ofNat 0)), (.int .u8 (.ofNat 0)), (.int .u8 (.ofNat 0)), (.int .u8 (.ofNat 0)), (.int .u8 (.ofNat 0)), (.int .u8 (.ofNat 0)), (.int .u8 (.ofNat 0)), (.int .u8 (.ofNat 0)), (.int .u8 (.ofNat 0)), (.int .u8 (.ofNat 0)), (.int .u8 (.ofNat 0)), (.int .u8 (.ofNat 0)), (.int .u8 (.ofNat 0)), (.int .u8 (.ofNat 0)), (.int .u8 (.ofNat 0)), (.int .u8 (.ofNat 0)), (.int .u8 (.ofNat 0)), (.int .u8 (.ofNat 0)), (.int .u8 (.ofNat 0)), (.int .u8 (.ofNat 0)), (.int .u8 (.ofNat 0)), (.int .u8 (.ofNat 0)), (.int .u8 (.ofNat 0)), (.int .u8 (.ofNat 0)), (.int .u8 (.ofNat 0)), (.int .u8 (.ofNat 0)), (.int .u8 (.ofNat 0)), (.int .u8 (.ofNat 0)), (.int .u8 (.ofNat 0)), (.int .u8 (.ofNat 0)), (.int .u8 (.ofNat 0)), (.int .u8 (.ofNat 0)), (.int .u8 (.ofNat 0)), (.int .u8 (.ofNat 0)), (.int .u8 (.ofNat 0)), (.int .u8 (.ofNat 0)), (.int .u8 (.ofNat 0)), (.int .u8 (.ofNat 0)), (.int .u8 (.ofNat 0)), (.int .u8 (.ofNat 0)), (.int .u8 (.ofNat 0)), (.int .u8 (.ofNat 0)), (.int .u8 (.ofNat 0)), (.int .u8 (.ofNat 0)), (.int .u8 (.ofNat 0)), (.int .u8 (.ofNat 0)), (.int .u8 (.ofNat 0)), (.int .u8 (.ofNat 0)), (.int .u8 (.ofNat 0)), (.int .u8 (.ofNat 0)), (.int .u8 (.ofNat 0)), (.int .u8 (.ofNat 0)), (.int .u8 (.ofNat 0)), (.int .u8 (.ofNat 0)), (.int .u8 (.ofNat 0)), (.int .u8 (.ofNat 0)), (.int .u8 (.ofNat 0)), (.int .u8 (.ofNat 0)), (.int .u8 (.ofNat 0)), (.int .u8 (.ofNat 0)), (.int .u8 (.ofNat 0)), (.int .u8 (.ofNat 0)), (.int .u8 (.ofNat 0)), (.int .u8 (.ofNat 0)), (.int .u8 (.ofNat 0)), (.int .u8 (.ofNat 0)), (.int .u8 (.ofNat 0)), (.int .u8 (.ofNat 0)), (.int .u8 (.ofNat 0)), (.int .u8 (.ofNat 0)), (.int .u8 (.ofNat 0)), (.int .u8 (.ofNat 0)), (.int .u8 (.ofNat 0)), (.int .u8 (.ofNat 0)), (.int .u8 (.ofNat 0)), (.int .u8 (.ofNat 0)), (.int .u8 (.ofNat 0)), (.int .u8 (.ofNat 0)), (.int .u8 (.ofNat 0)), (.int .u8 (.ofNat 0)), (.int .u8 (.ofNat 0)), (.int .u8 (.ofNat 0)), (.int .u8 (.ofNat 0)), (.int .u8 (.ofNat 0)), (.int .u8 (.ofNat 0)), (.int .u8 (.ofNat 0)), (.int .u8 (.ofNat 0)), (.int .u8 (.ofNat 0)), (.int .u8 (.ofNat 0)), (.int .u8 (.ofNat 0)), (.int .u8 (.ofNat 0)), (.int .u8 (.ofNat 0)), (.int .u8 (.ofNat 0)), (.int .u8 (.ofNat 0)), (.int .u8 (.ofNat 0)), (.int .u8 (.ofNat 0)), (.int .u8 (.ofNat 0)), (.int .u8 (.ofNat 0)), (.int .u8 (.ofNat 0)), (.int .u8 (.ofNat 0)), (.int .u8 (.ofNat 0)), (.int .u8 (.ofNat 0)), (.int .u8 (.ofNat 0)), (.int .u8 (.ofNat 0)), (.int .u8 (.ofNat 0)), (.int .u8 (.ofNat 0)), (.int .u8 (.ofNat 0)), (.int .u8 (.ofNat 0)), (.int .u8 (.ofNat 0)), (.int .u8 (.ofNat 0)), (.int .u8 (.ofNat 0)), (.int .u8 (.ofNat 0)), (.int .u8 (.ofNat 0)), (.int .u8 (.ofNat 0)), (.int .u8 (.ofNat 0)), (.int .u8 (.ofNat 0)), (.int .u8 (.ofNat 0)), (.int .u8 (.ofNat 0)), (.int .u8 (.ofNat 0)), (.int .u8 (.ofNat 0)), (.int .u8 (.ofNat 0)), (.int .u8 (.ofNat 0)), (.int .u8 (.ofNat 0)), (.int .u8 (.ofNat 0)), (.int .u8 (.ofNat 0)), (.int .u8 (.ofNat 0)), (.int .u8 (.ofNat 0)), (.int .u8 (.ofNat 0)), (.int .u8 (.ofNat 0)), (.int .u8 (.ofNat 0)), (.int .u8 (.ofNat 0)), (.int .u8 (.ofNat 0)), (.int .u8 (.ofNat 0)), (.int .u8 (.ofNat 0)), (.int .u8 (.ofNat 0)), (.int .u8 (.ofNat 0)), (.int .u8 (.ofNat 0)), (.int .u8 (.ofNat 0)), (.int .u8 (.ofNat 0)), (.int .u8 (.ofNat 0)), (.int .u8 (.ofNat 0)), (.int .u8 (.ofNat 0)), (.int .u8 (.ofNat 0)), (.int .u8 (.ofNat 0)), (.int .u8 (.ofNat 0)), (.int .u8 (.ofNat 0)), (.int .u8 (.ofNat 0)), (.int .u8 (.ofNat 0)), (.int .u8 (.ofNat 0)), (.int .u8 (.ofNat 0)), (.int .u8 (.ofNat 0)), (.int .u8 (.ofNat 0)), (.int .u8 (.ofNat 0)), (.int .u8 (.ofNat 0)), (.int .u8 (.ofNat 0)), (.int .u8 (.ofNat 0)), (.int .u8 (.ofNat 0)), (.int .u8 (.ofNat 0)), (.int .u8 (.ofNat 0)), (.int .u8 (.ofNat 0)), (.int .u8 (.ofNat 0)), (.int .u8 (.ofNat 0)), (.int .u8 (.ofNat 0)), (.int .u8 (.ofNat 0)), (.int .u8 (.ofNat 0)), (.int .u8 (.ofNat 0)), (.int .u8 (.ofNat 0)), (.int .u8 (.ofNat 0)), (.int .u8 (.ofNat 0)), (.int .u8 (.ofNat 0)), (.int .u8 (.ofNat 0)), (.int .u8 (.ofNat 0)), (.int .u8 (.ofNat 0)), (.int .u8 (.ofNat 0)), (.int .u8 (.ofNat 0)), (.int .u8 (.ofNat 0)), (.int .u8 (.ofNat 0)), (.int .u8 (.ofNat 0)), (.int .u8 (.ofNat 0)), (.int .u8 (.ofNat 0)), (.int .u8 (.ofNat 0)), (.int .u8 (.ofNat 0)), (.int .u8 (.ofNat 0)), (.int .u8 (.ofNat 0)), (.int .u8 (.ofNat 0)), (.int .u8 (.ofNat 0)), (.int .u8 (.ofNat 0)), (.int .u8 (.ofNat 0)), (.int .u8 (.ofNat 0)), (.int .u8 (.ofNat 0)), (.int .u8 (.ofNat 0)), (.int .u8 (.ofNat 0)), (.int .u8 (.ofNat 0)), (.int .u8 (.ofNat 0)), (.int .u8 (.ofNat 0)), (.int .u8 (.ofNat 0)), (.int .u8 (.ofNat 0)), (.int .u8 (.ofNat 0)), (.int .u8 (.ofNat 0)), (.int .u8 (.ofNat 0)), (.int .u8 (.ofNat 0)), (.int .u8 (.ofNat 0)), (.int .u8 (.ofNat 0)), (.int .u8 (.ofNat 0)), (.int .u8 (.ofNat 0)), (.int .u8 (.ofNat 0)), (.int .u8 (.ofNat 0)), (.int .u8 (.ofNat 0)), (.int .u8 (.ofNat 0)), (.int .u8 (.ofNat 0)), (.int .u8 (.ofNat 0)), (.int .u8 (.ofNat 0)), (.int .u8 (.ofNat 0)), (.int .u8 (.ofNat 0)), (.int .u8 (.ofNat 0)), (.int .u8 (.ofNat 0)), (.int .u8 (.ofNat 0)), (.int .u8 (.ofNat 0)), (.int .u8 (.ofNat 0)), (.int .u8 (.ofNat 0)), (.int .u8 (.ofNat 0)), (.int .u8 (.ofNat 0)), (.int .u8 (.ofNat 0)), (.int .u8 (.ofNat 0)), (.int .u8 (.ofNat 0)), (.int .u8 (.ofNat 0)), (.int .u8 (.ofNat 0)), (.int .u8 (.ofNat 0)), (.int .u8 (.ofNat 0)), (.int .u8 (.ofNat 0)), (.int .u8 (.ofNat 0)), (.int .u8 (.ofNat 0)), (.int .u8 (.ofNat 0)), (.int .u8 (.ofNat 0)), (.int .u8 (.ofNat 0)), (.int .u8 (.ofNat 0)), (.int .u8 (.ofNat 0)), (.int .u8 (.ofNat 0)), (.int .u8 (.ofNat 0)), (.int .u8 (.ofNat 0)), (.int .u8 (.ofNat 0)), (.int .u8 (.ofNat 0)), (.int .u8 (.ofNat 0)), (.int .u8 (.ofNat 0)), (.int .u8 (.ofNat 0)), (.int .u8 (.ofNat 0)), (.int .u8 (.ofNat 0)), (.int .u8 (.ofNat 0)), (.int .u8 (.ofNat 0)), (.int .u8 (.ofNat 0)), (.int .u8 (.ofNat 0)), (.int .u8 (.ofNat 0)), (.int .u8 (.ofNat 0)), (.int .u8 (.ofNat 0)), (.int .u8 (.ofNat 0)), (.int .u8 (.ofNat 0)), (.int .u8 (.ofNat 0)), (.int .u8 (.ofNat 0)), (.int .u8 (.ofNat 0)), (.int .u8 (.ofNat 0)), (.int .u8 (.ofNat 0)), (.int .u8 (.ofNat 0)), (.int .u8 (.ofNat 0)), (.int .u8 (.ofNat 0)), (.int .u8 (.ofNat 0)), (.int .u8 (.ofNat 0)), (.int .u8 (.ofNat 0)), (.int .u8 (.ofNat 0)), (.int .u8 (.ofNat 0)), (.int .u8 (.ofNat 0)), (.int .u8 (.ofNat 0)), (.int .u8 (.ofNat 0)), (.int .u8 (.ofNat 0)), (.int .u8 (.ofNat 0)), (.int .u8 (.ofNat 0)), (.int .u8 (.ofNat 0)), (.int .u8 (.ofNat 0)), (.int .u8 (.ofNat 0)), (.int .u8 (.ofNat 0)), (.int .u8 (.ofNat 0)), (.int .u8 (.ofNat 0)), (.int .u8 (.ofNat 0)), (.int .u8 (.ofNat 0)), (.int .u8 (.ofNat 0)), (.int .u8 (.ofNat 0)), (.int .u8 (.ofNat 0)), (.int .u8 (.ofNat 0)), (.int .u8 (.ofNat 0)), (.int .u8 (.ofNat 0)), (.int .u8 (.ofNat 0)), (.int .u8 (.ofNat 0)), (.int .u8 (.ofNat 0)), (.int .u8 (.ofNat 0)), (.int .u8 (.ofNat 0)), (.int .u8 (.ofNat 0)), (.int .u8 (.ofNat 0)), (.int .u8 (.ofNat 0)), (.int .u8 (.ofNat 0)), (.int .u8 (.ofNat 0)), (.int .u8 (.ofNat 0)), (.int .u8 (.ofNat 0)), (.int .u8 (.ofNat 0)), (.int .u8 (.ofNat 0)), (.int .u8 (.ofNat 0)), (.int .u8 (.ofNat 0)), (.int .u8 (.ofNat 0)), (.int .u8 (.ofNat 0)), (.int .u8 (.ofNat 0)), (.int .u8 (.ofNat 0)), (.int .u8 (.ofNat 0)), (.int .u8 (.ofNat 0)), (.int .u8 (.ofNat 0)), (.int .u8 (.ofNat 0)), (.int .u8 (.ofNat 0)), (.int .u8 (.ofNat 0)), (.int .u8 (.ofNat 0)), (.int .u8 (.ofNat 0)), (.int .u8 (.ofNat 0)), (.int .u8 (.ofNat 0)), (.int .u8 (.ofNat 0)), (.int .u8 (.ofNat 0)), (.int .u8 (.ofNat 0)), (.int .u8 (.ofNat 0)), (.int .u8 (.ofNat 0)), (.int .u8 (.ofNat 0)), (.int .u8 (.ofNat 0)), (.int .u8 (.ofNat 0)), (.int .u8 (.ofNat 0)), (.int .u8 (.ofNat 0)), (.int .u8 (.ofNat 0)), (.int .u8 (.ofNat 0)), (.int .u8 (.ofNat 0)), (.int .u8 (.ofNat 0)), (.int .u8 (.ofNat 0)), (.int .u8 (.ofNat 0)), (.int .u8 (.ofNat 0)), (.int .u8 (.ofNat 0)), (.int .u8 (.ofNat 0)), (.int .u8 (.ofNat 0)), (.int .u8 (.ofNat 0)), (.int .u8 (.ofNat 0)), (.int .u8 (.ofNat 0)), (.int .u8 (.ofNat 0)), (.int .u8 (.ofNat 0)), (.int .u8 (.ofNat 0)), (.int .u8 (.ofNat 0)), (.int .u8 (.ofNat 0)), (.int .u8 (.ofNat 0)), (.int .u8 (.ofNat 0)), (.int .u8 (.ofNat 0)), (.int .u8 (.ofNat 0)), (.int .u8 (.ofNat 0)), (.int .u8 (.ofNat 0)), (.int .u8 (.ofNat 0)), (.int .u8 (.ofNat 0)), (.int .u8 (.ofNat 0)), (.int .u8 (.ofNat 0)), (.int .u8 (.ofNat 0)), (.int .u8 (.ofNat 0)), (.int .u8 (.ofNat 0)), (.int .u8 (.ofNat 0)), (.int .u8 (.ofNat 0)), (.int .u8 (.ofNat 0)), (.int .u8 (.ofNat 0)), (.int .u8 (.ofNat 0)), (.int .u8 (.ofNat 0)), (.int .u8 (.ofNat 0)), (.int .u8 (.ofNat 0)), (.int .u8 (.ofNat 0)), (.int .u8 (.ofNat 0)), (.int .u8 (.ofNat 0)), (.int .u8 (.ofNat 0)), (.int .u8 (.ofNat 0)), (.int .u8 (.ofNat 0)), (.int .u8 (.ofNat 0)), (.int .u8 (.ofNat 0)), (.int .u8 (.ofNat 0)), (.int .u8 (.ofNat 0)), (.int .u8 (.ofNat 0)), (.int .u8 (.ofNat 0)), (.int .u8 (.ofNat 0)), (.int .u8 (.ofNat 0)), (.int .u8 (.ofNat 0)), (.int .u8 (.ofNat 0)), (.int .u8 (.ofNat 0)), (.int .u8 (.ofNat 0)), (.int .u8 (.ofNat 0)), (.int .u8 (.ofNat 0)), (.int .u8 (.ofNat 0)), (.int .u8 (.ofNat 0)), (.int .u8 (.ofNat 0)), (.int .u8 (.ofNat 0)), (.int .u8 (.ofNat 0)), (.int .u8 (.ofNat 0)), (.int .u8 (.ofNat 0)), (.int .u8 (.ofNat 0)), (.int .u8 (.ofNat 0)), (.int .u8 (.ofNat 0)), (.int .u8 (.ofNat 0)), (.int .u8 (.ofNat 0)), (.int .u8 (.ofNat 0)), (.int .u8 (.ofNat 0)), (.int .u8 (.ofNat 0)), (.int .u8 (.ofNat 0)), (.int .u8 (.ofNat 0)), (.int .u8 (.ofNat 0)), (.int .u8 (.ofNat 0)), (.int .u8 (.ofNat 0)), (.int .u8 (.ofNat 0)), (.int .u8 (.ofNat 0)), (.int .u8 (.ofNat 0)), (.int .u8 (.ofNat 0)), (.int .u8 (.ofNat 0)), (.int .u8 (.ofNat 0)), (.int .u8 (.ofNat 0)), (.int .u8 (.ofNat 0)), (.int .u8 (.ofNat 0)), (.int .u8 (.ofNat 0)), (.int .u8 (.ofNat 0)), (.int .u8 (.ofNat 0)), (.int .u8 (.ofNat 0)), (.int .u8 (.ofNat 0)), (.int .u8 (.ofNat 0)), (.int .u8 (.ofNat 0)), (.int .u8 (.ofNat 0)), (.int .u8 (.ofNat 0)), (.int .u8 (.ofNat 0)), (.int .u8 (.ofNat 0)), (.int .u8 (.ofNat 0)), (.int .u8 (.ofNat 0)), (.int .u8 (.ofNat 0)), (.int .u8 (.ofNat 0)), (.int .u8 (.ofNat 0)), (.int .u8 (.ofNat 0)), (.int .u8 (.ofNat 0)), (.int .u8 (.ofNat 0)), (.int .u8 (.ofNat 0)), (.int .u8 (.ofNat 0)), (.int .u8 (.ofNat 0)), (.int .u8 (.ofNat 0)), (.int .u8 (.ofNat 0)), (.int .u8 (.ofNat 0)), (.int .u8 (.ofNat 0)), (.int .u8 (.ofNat 0)), (.int .u8 (.ofNat 0)), (.int .u8 (.ofNat 0)), (.int .u8 (.ofNat 0)), (.int .u8 (.ofNat 0)), (.int .u8 (.ofNat 0)), (.int .u8 (.ofNat 0)), (.int .u8 (.ofNat 0)), (.int .u8 (.ofNat 0)), (.int .u8 (.ofNat 0)), (.int .u8 (.ofNat 0)), (.int .u8 (.ofNat 0)), (.int .u8 (.ofNat 0)), (.int .u8 (.ofNat 0)), (.int .u8 (.ofNat 0)), (.int .u8 (.ofNat 0)), (.int .u8 (.ofNat 0)), (.int .u8 (.ofNat 0)), (.int .u8 (.ofNat 0)), (.int .u8 (.ofNat 0)), (.int .u8 (.ofNat 0)), (.int .u8 (.ofNat 0)), (.int .u8 (.ofNat 0)), (.int .u8 (.ofNat 0)), (.int .u8 (.ofNat 0)), (.int .u8 (.ofNat 0)), (.int .u8 (.ofNat 0)), (.int .u8 (.ofNat 0)), (.int .u8 (.ofNat 0)), (.int .u8 (.ofNat 0)), (.int .u8 (.ofNat 0)), (.int .u8 (.ofNat 0)), (.int .u8 (.ofNat 0)), (.int .u8 (.ofNat 0)), (.int .u8 (.ofNat 0)), (.int .u8 (.ofNat 0)), (.int .u8 (.ofNat 0)), (.int .u8 (.ofNat 0)), (kI 0), (kI 0), (.bool false), (.bool false)])] (.seq (.seq (.oX [.mv p125 q0 .s, .mv p126 q3 tI, .P p127 (.slice .str q125 none (some q126) none) .s, .cl p128 130 [q23, q127] .b, .P p129 (.un .not q128) .b]) (.cond q129 (.seq (.oX [.mv p130 q3 tI, .P p131 (.mkif 121 (ci 2)) .v, .mv p2 (.c (.flt .f64 0)) .v, .mv p3 q130 tI, .mv p4 q131 .v]) .ret) .skip)) (.sO [.cl p133 131 [q23, (.c (.ptr p7 0))] .v, .mv p132 q133 .v, .P p134 (.ext q132 0) (.i .u64), .P p135 (.ext q132 1) .b, .mv p24 q134 (.i .u64), .mv p25 q135 .b] (.sO [.mv p136 q24 (.i .u64), .P p137 (.xt .ffrom [q136]) .v, .mv p2 q137 .v] (.sj v115_1 (.sO [.mv p138 q25 .b] (.cond q138 (.s (.oX [.P p139 (.mkif 121 (ci 1)) .v, .mv p4 q139 .v])) (.s .skip))) c115_1)))))
def v115_2 : List Pos := [p0, p3, p4, p8, p9, p11, p16]
def c115_2 : XC := (.sO [.mv p100 q8 (.i .u64), .mv p101 q9 tI, .mv p102 q16 (.i .u64), .cl p103 135 [q100, q101, q102] .v, .mv p99 q103 .v, .P p104 (.ext q99 0) .v, .P p105 (.ext q99 1) .v, .mv p19 q104 .v, .mv p20 q105 .v] (.seq (.seq (.oX [.mv p106 q11 .b, .P p107 (.un .not q106) .b]) (.cond q107 (.seq (.oX [.mv p108 q19 .v, .mv p109 q3 tI, .mv p110 q20 .v, .mv p2 q108 .v, .mv p3 q109 tI, .mv p4 q110 .v]) .ret) .skip)) (.sO [.mv p112 q8 (.i .u64), .bn p113 .add q112 (.c (.int .u64 (.ofNat 1))) (.i .u64), .mv p114 q9 tI, .mv p115 q16 (.i .u64), .cl p116 135 [q113, q114, q115] .v, .mv p111 q116 .v, .P p117 (.ext q111 0) .v, .P p118 (.ext q111 1) .v, .mv p21 q117 .v, .mv p22 q118 .v] (.sO [.mv p119 q19 .v, .mv p120 q21 .v, .bn p121 .eql q119 q120 .b] (.cond q121 (.sO [.mv p122 q19 .v, .mv p123 q3 tI, .mv p124 q20 .v, .mv p2 q122 .v, .mv p3 q123 tI, .mv p4 q124 .v] (.s .ret)) (.s .skip))))))
def c115_e : XC := (.sO [.mv p2 (.c (.flt .f64 0)) .v, .mv p3 (ci 0) tI, .mv p4 (.c .nili) .v] (.seq (.seq (.oX [.mv p27 q0 .s, .cl p28 123 [q27] .v, .mv p26 q28 .v, .P p29 (.ext q26 0) .v, .P p30 (.ext q26 1) tI, .P p31 (.ext q26 2) .b, .mv p5 q29 .v, .mv p6 q30 tI, .mv p7 q31 .b]) (.seq (.oX [.mv p32 q7 .b]) (.cond q32 (.seq (.oX [.mv p33 q5 .v, .mv p34 q6 tI, .mv p2 q33 .v, .mv p3 q34 tI, .mv p4 (.c .nili) .v]) .ret) .skip))) (.sO [.mv p36 q0 .s, .cl p37 124 [q36] .v, .mv p35 q37 .v, .P p38 (.ext q35 0) (.i .u64), .P p39 (.ext q35 1) tI, .P p40 (.ext q35 2) .b, .P p41 (.ext q35 3) .b, .P p42 (.ext q35 4) .b, .P p43 (.ext q35 5) tI, .P p44 (.ext q35 6) .b, .mv p8 q38 (.i .u64), .mv p9 q39 tI, .mv p10 q40 .b, .mv p11 q41 .b, .mv p12 q42 .b, .mv p3 q43 tI, .mv p13 q44 .b] (.seq (.seq (.oX [.mv p45 q13 .b, .P p46 (.un .not q45) .b]) (.cond q46 (.seq (.oX [.mv p47 q3 tI, .P p48 (.mkif 121 (ci 2)) .v, .mv p2 (.c (.flt .f64 0)) .v, .mv p3 q47 tI, .mv p4 q48 .v]) .ret) .skip)) (.seq (.seq (.oX [.mv p49 q12 .b]) (.cond q49 (.seq (.oX [.mv p51 q0 .s, .mv p52 q3 tI, .P p53 (.slice .str q51 none (some q52) none) .s, .mv p54 q8 (.i .u64), .mv p55 q9 tI, .mv p56 q10 .b, .mv p57 q11 .b, .cl p58 125 [q53, (.c (.ptr p7 0)), q54, q55, q56, q57] .v, .mv p50 q58 .v, .P p59 (.ext q50 0) .v, .P p60 (.ext q50 1) .v, .mv p14 q59 .v, .mv p15 q60 .v]) (.seq (.oX [.mv p61 q14 .v, .mv p62 q3 tI, .mv p63 q15 .v, .mv p2 q61 .v, .mv p3 q62 tI, .mv p4 q63 .v]) .ret)) .skip)) (.sj v115_0 (.sO [.ld p64 (.c (.ptr p6 0)) .b] (.cond q64 (.sO [.mv p65 q10 .b, .cl p66 132 [q65] (.i .u64), .bn p67 .shl q66 (.c (.int .u64 (.ofNat 63))) (.i .u64), .mv p16 q67 (.i .u64)] (.seq (.seq (.oX [.mv p68 q8 (.i .u64), .bn p69 .eql q68 (.c (.int .u64 (.ofNat 0))) .b]) (.cond q69 (.seq (.oX [.mv p70 q16 (.i .u64), .bn p71 .or q70 (.c (.int .u64 (.ofNat 0))) (.i .u64), .P p72 (.xt .ffrom [q71]) .v, .mv p73 q3 tI, .mv p2 q72 .v, .mv p3 q73 tI, .mv p4 (.c .nili) .v]) .ret) .skip)) (.seq (.seq (.oX [.mv p74 q9 tI, .bn p75 .gtr q74 (ci 310) .b]) (.cond q75 (.seq (.oX [.mv p76 q16 (.i .u64), .bn p77 .or q76 (.c (.int .u64 (.ofNat 9218868437227405312))) (.i .u64), .P p78 (.xt .ffrom [q77]) .v, .mv p79 q3 tI, .P p80 (.mkif 121 (ci 1)) .v, .mv p2 q78 .v, .mv p3 q79 tI, .mv p4 q80 .v]) .ret) .skip)) (.seq (.seq (.oX [.mv p81 q9 tI, .bn p82 .lss q81 (.c (.int .i64 (.negSucc 344))) .b]) (.cond q82 (.seq (.oX [.mv p83 q16 (.i .u64), .bn p84 .or q83 (.c (.int .u64 (.ofNat 0))) (.i .u64), .P p85 (.xt .ffrom [q84]) .v, .mv p86 q3 tI, .mv p2 q85 .v, .mv p3 q86 tI, .mv p4 (.c .nili) .v]) .ret) .skip)) (.sj v115_2 (.sO [.mv p87 q11 .b, .P p88 (.un .not q87) .b] (.cond q88 (.sO [.mv p90 q8 (.i .u64), .mv p91 q9 tI, .mv p92 q10 .b, .cl p93 134 [q90, q91, q92] .v, .mv p89 q93 .v, .P p94 (.ext q89 0) .v, .P p95 (.ext q89 1) .b, .mv p17 q94 .v, .mv p18 q95 .b] (.sO [.mv p96 q18 .b] (.cond q96 (.sO [.mv p97 q17 .v, .mv p98 q3 tI, .mv p2 q97 .v, .mv p3 q98 tI, .mv p4 (.c .nili) .v] (.s .ret)) (.s .skip)))) (.s .skip))) c115_2))))) (.s .skip))) c115_0))))))
def x115 : XFn := ⟨[.s], false, [(.tmp p2), (.tmp p3), (.tmp p4)], c115_e⟩
def e115_1 (k t2 t3 t4 h) := kN k [(p2, t2), (p3, (vI t3)), (p4, t4)] h
def S115_1 (D : CallD) (m : Nat) (t2 : AV) (t3 : Int) (t4 : AV) (h : HP) : Res2 :=
 some (.ret (.tup [t2, (vI t3), t4]) h, .no)
def e115_0 (k t0 t3 t4 h) := kN k [(p0, (vS t0)), (p3, (vI t3)), (p4, t4)] h
def S115_0 (D : CallD) (m : Nat) (t0 : LN) (t3 : Int) (t4 : AV) (h : HP) : Res2 :=
 let t23 := AV.ptr (HP.nxQ h) 0
 let h7 := HP.newQ h (.cells true [(.int .u8 (.ofNat 0)), (.int .u8 (.ofNat 0)), (.int .u8 (.ofNat 0)), (.int .u8 (.ofNat 0)), (.int .u8 (.ofNat 0)), (.int .u8 (.ofNat 0)), (.int .u8 (.ofNat 0)), (.int .u8 (.ofNat 0)), (.int .u8 (.ofNat 0)), (.int .u8 (.ofNat 0)), (.int .u8 (.ofNat 0)), (.int .u8 (.ofNat 0)), (.int .u8 (.ofNat 0)), (.int .u8 (.ofNat 0)), (.int .u8 (.ofNat 0)), (.int .u8 (.ofNat 0)), (.int .u8 (.ofNat 0)), (.int .u8 (.ofNat 0)), (.int .u8 (.ofNat 0)), (.int .u8 (.ofNat 0)), (.int .u8 (.ofNat 0)), (.int .u8 (.ofNat 0)), (.int .u8 (.ofNat 0)), (.int .u8 (.ofNat 0)), (.int .u8 (.ofNat 0)), (.int .u8 (.ofNat 0)), (.int .u8 (.ofNat 0)), (.int .u8 (.ofNat 0)), (.int .u8 (.ofNat 0)), (.int .u8 (.ofNat 0)), (.int .u8 (.ofNat 0)), (.int .u8 (.ofNat 0)), (.int .u8 (.ofNat 0)), (.int .u8 (.ofNat 0)), (.int .u8 (.ofNat 0)), (.int .u8 (.ofNat 0)), (.int .u8 (.ofNat 0)), (.int .u8 (.ofNat 0)), (.int .u8 (.ofNat 0)), (.int .u8 (.ofNat 0)), (.int .u8 (.ofNat 0)), (.int .u8 (.ofNat 0)), (.int .u8 (.ofNat 0)), (.int .u8 (.ofNat 0)), (.int .u8 (.ofNat 0)), (.int .u8 (.ofNat 0)), (.int .u8 (.ofNat 0)), (.int .u8 (.ofNat 0)), (.int .u8 (.ofNat 0)), (.int .u8 (.ofNat 0)), (.int .u8 (.ofNat 0)), (.int .u8 (.ofNat 0)), (.int .u8 (.ofNat 0)), (.int .u8 (.ofNat 0)), (.int .u8 (.ofNat 0)), (.int .u8 (.ofNat 0)), (.int .u8 (.ofNat 0)), (.int .u8 (.ofNat 0)), (.int .u8 (.ofNat 0)), (.int .u8 (.ofNat 0)), (.int .u8 (.ofNat 0)), (.int .u8 (.ofNat 0)), (.int .u8 (.ofNat 0)), (.int .u8 (.ofNat 0)), (.int .u8 (.ofNat 0)), (.int .u8 (.ofNat 0)), (.int .u8 (.ofNat 0)), (.int .u8 (.ofNat 0)), (.int .u8 (.ofNat 0)), (.int .u8 (.ofNat 0)), (.int .u8 (.ofNat 0)), (.int .u8 (.ofNat 0)), (.int .u8 (.ofNat 0)), (.int .u8 (.ofNat 0)), (.int .u8 (.ofNat 0)), (.int .u8 (.ofNat 0)), (.int .u8 (.ofNat 0)), (.int .u8 (.ofNat 0)), (.int .u8 (.ofNat 0)), (.int .u8 (.ofNat 0)), (.int .u8 (.ofNat 0)), (.int .u8 (.ofNat 0)), (.int .u8 (.ofNat 0)), (.int .u8 (.ofNat 0)), (.int .u8 (.ofNat 0)), (.int .u8 (.ofNat 0)), (.int .u8 (.ofNat 0)), (.int .u8 (.ofNat 0)), (.int .u8 (.ofNat 0)), (.int .u8 (.ofNat 0)), (.int .u8 (.ofNat 0)), (.int .u8 (.ofNat 0)), (.int .u8 (.ofNat 0)), (.int .u8 (.ofNat 0)), (.int .u8 (.ofNat 0)), (.int .u8 (.ofNat 0)), (.int .u8 (.ofNat 0)), (.int .u8 (.ofNat 0)), (.int .u8 (.ofNat 0)), (.int .u8 (.ofNat 0)), (.int .u8 (.ofNat 0)), (.int .u8 (.ofNat 0)), (.int .u8 (.ofNat 0)), (.int .u8 (.ofNat 0)), (.int .u8 (.ofNat 0)), (.int .u8 (.ofNat 0)), (.int .u8 (.ofNat 0)), (.int .u8 (.ofNat 0)), (.int .u8 (.ofNat 0)), (.int .u8 (.ofNat 0)), (.int .u8 (.ofNat 0)), (.int .u8 (.ofNat 0)), (.int .u8 (.ofNat 0)), (.int .u8 (.ofNat 0)), (.int .u8 (.ofNat 0)), (.int .u8 (.ofNat 0)), (.int .u8 (.ofNat 0)), (.int .u8 (.ofNat 0)), (.int .u8 (.ofNat 0)), (.int .u8 (.ofNat 0)), (.int .u8 (.ofNat 0)), (.int .u8 (.ofNat 0)), (.int .u8 (.ofNat 0)), (.int .u8 (.ofNat 0)), (.int .u8 (.ofNat 0)), (.int .u8 (.ofNat 0)), (.int .u8 (.ofNat 0)), (.int .u8 (.ofNat 0)), (.int .u8 (.ofNat 0)), (.int .u8 (.ofNat 0)), (.int .u8 (.ofNat 0)), (.int .u8 (.ofNat 0)), (.int .u8 (.ofNat 0)), (.int .u8 (.ofNat 0)), (.int .u8 (.ofNat 0)), (.int .u8 (.ofNat 0)), (.int .u8 (.ofNat 0)), (.int .u8 (.ofNat 0)), (.int .u8 (.ofNat 0)), (.int .u8 (.ofNat 0)), (.int .u8 (.ofNat 0)), (.int .u8 (.ofNat 0)), (.int .u8 (.ofNat 0)), (.int .u8 (.ofNat 0)), (.int .u8 (.ofNat 0)), (.int .u8 (.ofNat 0)), (.int .u8 (.ofNat 0)), (.int .u8 (.ofNat 0)), (.int .u8 (.ofNat 0)), (.int .u8 (.ofNat 0)), (.int .u8 (.ofNat 0)), (.int .u8 (.ofNat 0)), (.int .u8 (.ofNat 0)), (.int .u8 (.ofNat 0)), (.int .u8 (.ofNat 0)), (.int .u8 (.ofNat 0)), (.int .u8 (.ofNat 0)), (.int .u8 (.ofNat 0)), (.int .u8 (.ofNat 0)), (.int .u8 (.ofNat 0)), (.int .u8 (.ofNat 0)), (.int .u8 (.ofNat 0)), (.int .u8 (.ofNat 0)), (.int .u8 (.ofNat 0)), (.int .u8 (.ofNat 0)), (.int .u8 (.ofNat 0)), (.int .u8 (.ofNat 0)), (.int .u8 (.ofNat 0)), (.int .u8 (.ofNat 0)), (.int .u8 (.ofNat 0)), (.int .u8 (.ofNat 0)), (.int .u8 (.ofNat 0)), (.int .u8 (.ofNat 0)), (.int .u8 (.ofNat 0)), (.int .u8 (.ofNat 0)), (.int .u8 (.ofNat 0)), (.int .u8 (.ofNat 0)), (.int .u8 (.ofNat 0)), (.int .u8 (.ofNat 0)), (.int .u8 (.ofNat 0)), (.int .u8 (.ofNat 0)), (.int .u8 (.ofNat 0)), (.int .u8 (.ofNat 0)), (.int .u8 (.ofNat 0)), (.int .u8 (.ofNat 0)), (.int .u8 (.ofNat 0)), (.int .u8 (.ofNat 0)), (.int .u8 (.ofNat 0)), (.int .u8 (.ofNat 0)), (.int .u8 (.ofNat 0)), (.int .u8 (.ofNat 0)), (.int .u8 (.ofNat 0)), (.int .u8 (.ofNat 0)), (.int .u8 (.ofNat 0)), (.int .u8 (.ofNat 0)), (.int .u8 (.ofNat 0)), (.int .u8 (.ofNat 0)), (.int .u8 (.ofNat 0)), (.int .u8 (.ofNat 0)), (.int .u8 (.ofNat 0)), (.int .u8 (.ofNat 0)), (.int .u8 (.ofNat 0)), (.int .u8 (.ofNat 0)), (.int .u8 (.ofNat 0)), (.int .u8 (.ofNat 0)), (.int .u8 (.ofNat 0)), (.int .u8 (.ofNat 0)), (.int .u8 (.ofNat 0)), (.int .u8 (.ofNat 0)), (.int .u8 (.ofNat 0)), (.int .u8 (.ofNat 0)), (.int .u8 (.ofNat 0)), (.int .u8 (.ofNat 0)), (.int .u8 (.ofNat 0)), (.int .u8 (.ofNat 0)), (.int .u8 (.ofNat 0)), (.int .u8 (.ofNat 0)), (.int .u8 (.ofNat 0)), (.int .u8 (.ofNat 0)), (.int .u8 (.ofNat 0)), (.int .u8 (.ofNat 0)), (.int .u8 (.ofNat 0)), (.int .u8 (.ofNat 0)), (.int .u8 (.ofNat 0)), (.int .u8 (.ofNat 0)), (.int .u8 (.ofNat 0)), (.int .u8 (.ofNat 0)), (.int .u8 (.ofNat 0)), (.int .u8 (.ofNat 0)), (.int .u8 (.ofNat 0)), (.int .u8 (.ofNat 0)), (.int .u8 (.ofNat 0)), (.int .u8 (.ofNat 0)), (.int .u8 (.ofNat 0)), (.int .u8 (.ofNat 0)), (.int .u8 (.ofNat 0)), (.int .u8 (.ofNat 0)), (.int .u8 (.ofNat 0)), (.int .u8 (.ofNat 0)), (.int .u8 (.ofNat 0)), (.int .u8 (.ofNat 0)), (.int .u8 (.ofNat 0)), (.int .u8 (.ofNat 0)), (.int .u8 (.ofNat 0)), (.int .u8 (.ofNat 0)), (.int .u8 (.ofNat 0)), (.int .u8 (.ofNat 0)), (.int .u8 (.ofNat 0)), (.int .u8 (.ofNat 0)), (.int .u8 (.ofNat 0)), (.int .u8 (.ofNat 0)), (.int .u8 (.ofNat 0)), (.int .u8 (.ofNat 0)), (.int .u8 (.ofNat 0)), (.int .u8 (.ofNat 0)), (.int .u8 (.ofNat 0)), (.int .u8 (.ofNat 0)), (.int .u8 (.ofNat 0)), (.int .u8 (.ofNat 0)), (.int .u8 (.ofNat 0)), (.int .u8 (.ofNat 0)), (.int .u8 (.ofNat 0)), (.int .u8 (.ofNat 0)), (.int .u8 (.ofNat 0)), (.int .u8 (.ofNat 0)), (.int .u8 (.ofNat 0)), (.int .u8 (.ofNat 0)), (.int .u8 (.ofNat 0)), (.int .u8 (.ofNat 0)), (.int .u8 (.ofNat 0)), (.int .u8 (.ofNat 0)), (.int .u8 (.ofNat 0)), (.int .u8 (.ofNat 0)), (.int .u8 (.ofNat 0)), (.int .u8 (.ofNat 0)), (.int .u8 (.ofNat 0)), (.int .u8 (.ofNat 0)), (.int .u8 (.ofNat 0)), (.int .u8 (.ofNat 0)), (.int .u8 (.ofNat 0)), (.int .u8 (.ofNat 0)), (.int .u8 (.ofNat 0)), (.int .u8 (.ofNat 0)), (.int .u8 (.ofNat 0)), (.int .u8 (.ofNat 0)), (.int .u8 (.ofNat 0)), (.int .u8 (.ofNat 0)), (.int .u8 (.ofNat 0)), (.int .u8 (.ofNat 0)), (.int .u8 (.ofNat 0)), (.int .u8 (.ofNat 0)), (.int .u8 (.ofNat 0)), (.int .u8 (.ofNat 0)), (.int .u8 (.ofNat 0)), (.int .u8 (.ofNat 0)), (.int .u8 (.ofNat 0)), (.int .u8 (.ofNat 0)), (.int .u8 (.ofNat 0)), (.int .u8 (.ofNat 0)), (.int .u8 (.ofNat 0)), (.int .u8 (.ofNat 0)), (.int .u8 (.ofNat 0)), (.int .u8 (.ofNat 0)), (.int .u8 (.ofNat 0)), (.int .u8 (.ofNat 0)), (.int .u8 (.ofNat 0)), (.int .u8 (.ofNat 0)), (.int .u8 (.ofNat 0)), (.int .u8 (.ofNat 0)), (.int .u8 (.ofNat 0)), (.int .u8 (.ofNat 0)), (.int .u8 (.ofNat 0)), (.int .u8 (.ofNat 0)), (.int .u8 (.ofNat 0)), (.int .u8 (.ofNat 0)), (.int .u8 (.ofNat 0)), (.int .u8 (.ofNat 0)), (.int .u8 (.ofNat 0)), (.int .u8 (.ofNat 0)), (.int .u8 (.ofNat 0)), (.int .u8 (.ofNat 0)), (.int .u8 (.ofNat 0)), (.int .u8 (.ofNat 0)), (.int .u8 (.ofNat 0)), (.int .u8 (.ofNat 0)), (.int .u8 (.ofNat 0)), (.int .u8 (.ofNat 0)), (.int .u8 (.ofNat 0)), (.int .u8 (.ofNat 0)), (.int .u8 (.ofNat 0)), (.int .u8 (.ofNat 0)), (.int .u8 (.ofNat 0)), (.int .u8 (.ofNat 0)), (.int .u8 (.ofNat 0)), (.int .u8 (.ofNat 0)), (.int .u8 (.ofNat 0)), (.int .u8 (.ofNat 0)), (.int .u8 (.ofNat 0)), (.int .u8 (.ofNat 0)), (.int .u8 (.ofNat 0)), (.int .u8 (.ofNat 0)), (.int .u8 (.ofNat 0)), (.int .u8 (.ofNat 0)), (.int .u8 (.ofNat 0)), (.int .u8 (.ofNat 0)), (.int .u8 (.ofNat 0)), (.int .u8 (.ofNat 0)), (.int .u8 (.ofNat 0)), (.int .u8 (.ofNat 0)), (.int .u8 (.ofNat 0)), (.int .u8 (.ofNat 0)), (.int .u8 (.ofNat 0)), (.int .u8 (.ofNat 0)), (.int .u8 (.ofNat 0)), (.int .u8 (.ofNat 0)), (.int .u8 (.ofNat 0)), (.int .u8 (.ofNat 0)), (.int .u8 (.ofNat 0)), (.int .u8 (.ofNat 0)), (.int .u8 (.ofNat 0)), (.int .u8 (.ofNat 0)), (.int .u8 (.ofNat 0)), (.int .u8 (.ofNat 0)), (.int .u8 (.ofNat 0)), (.int .u8 (.ofNat 0)), (.int .u8 (.ofNat 0)), (.int .u8 (.ofNat 0)), (.int .u8 (.ofNat 0)), (.int .u8 (.ofNat 0)), (.int .u8 (.ofNat 0)), (.int .u8 (.ofNat 0)), (.int .u8 (.ofNat 0)), (.int .u8 (.ofNat 0)), (.int .u8 (.ofNat 0)), (.int .u8 (.ofNat 0)), (.int .u8 (.ofNat 0)), (.int .u8 (.ofNat 0)), (.int .u8 (.ofNat 0)), (.int .u8 (.ofNat 0)), (.int .u8 (.ofNat 0)), (.int .u8 (.ofNat 0)), (.int .u8 (.ofNat 0)), (.int .u8 (.ofNat 0)), (.int .u8 (.ofNat 0)), (.int .u8 (.ofNat 0)), (.int .u8 (.ofNat 0)), (.int .u8 (.ofNat 0)), (.int .u8 (.ofNat 0)), (.int .u8 (.ofNat 0)), (.int .u8 (.ofNat 0)), (.int .u8 (.ofNat 0)), (.int .u8 (.ofNat 0)), (.int .u8 (.ofNat 0)), (.int .u8 (.ofNat 0)), (.int .u8 (.ofNat 0)), (.int .u8 (.ofNat 0)), (.int .u8 (.ofNat 0)), (.int .u8 (.ofNat 0)), (.int .u8 (.ofNat 0)), (.int .u8 (.ofNat 0)), (.int .u8 (.ofNat 0)), (.int .u8 (.ofNat 0)), (.int .u8 (.ofNat 0)), (.int .u8 (.ofNat 0)), (.int .u8 (.ofNat 0)), (.int .u8 (.ofNat 0)), (.int .u8 (.ofNat 0)), (.int .u8 (.ofNat 0)), (.int .u8 (.ofNat 0)), (.int .u8 (.ofNat 0)), (.int .u8 (.ofNat 0)), (.int .u8 (.ofNat 0)), (.int .u8 (.ofNat 0)), (.int .u8 (.ofNat 0)), (.int .u8 (.ofNat 0)), (.int .u8 (.ofNat 0)), (.int .u8 (.ofNat 0)), (.int .u8 (.ofNat 0)), (.int .u8 (.ofNat 0)), (.int .u8 (.ofNat 0)), (.int .u8 (.ofNat 0)), (.int .u8 (.ofNat 0)), (.int .u8 (.ofNat 0)), (.int .u8 (.ofNat 0)), (.int .u8 (.ofNat 0)), (.int .u8 (.ofNat 0)), (.int .u8 (.ofNat 0)), (.int .u8 (.ofNat 0)), (.int .u8 (.ofNat 0)), (.int .u8 (.ofNat 0)), (.int .u8 (.ofNat 0)), (.int .u8 (.ofNat 0)), (.int .u8 (.ofNat 0)), (.int .u8 (.ofNat 0)), (.int .u8 (.ofNat 0)), (.int .u8 (.ofNat 0)), (.int .u8 (.ofNat 0)), (.int .u8 (.ofNat 0)), (.int .u8 (.ofNat 0)), (.int .u8 (.ofNat 0)), (.int .u8 (.ofNat 0)), (.int .u8 (.ofNat 0)), (.int .u8 (.ofNat 0)), (.int .u8 (.ofNat 0)), (.int .u8 (.ofNat 0)), (.int .u8 (.ofNat 0)), (.int .u8 (.ofNat 0)), (.int .u8 (.ofNat 0)), (.int .u8 (.ofNat 0)), (.int .u8 (.ofNat 0)), (.int .u8 (.ofNat 0)), (.int .u8 (.ofNat 0)), (.int .u8 (.ofNat 0)), (.int .u8 (.ofNat 0)), (.int .u8 (.ofNat 0)), (.int .u8 (.ofNat 0)), (.int .u8 (.ofNat 0)), (.int .u8 (.ofNat 0)), (.int .u8 (.ofNat 0)), (.int .u8 (.ofNat 0)), (.int .u8 (.ofNat 0)), (.int .u8 (.ofNat 0)), (.int .u8 (.ofNat 0)), (.int .u8 (.ofNat 0)), (.int .u8 (.ofNat 0)), (.int .u8 (.ofNat 0)), (.int .u8 (.ofNat 0)), (.int .u8 (.ofNat 0)), (.int .u8 (.ofNat 0)), (.int .u8 (.ofNat 0)), (.int .u8 (.ofNat 0)), (.int .u8 (.ofNat 0)), (.int .u8 (.ofNat 0)), (.int .u8 (.ofNat 0)), (.int .u8 (.ofNat 0)), (.int .u8 (.ofNat 0)), (.int .u8 (.ofNat 0)), (.int .u8 (.ofNat 0)), (.int .u8 (.ofNat 0)), (.int .u8 (.ofNat 0)), (.int .u8 (.ofNat 0)), (.int .u8 (.ofNat 0)), (.int .u8 (.ofNat 0)), (.int .u8 (.ofNat 0)), (.int .u8 (.ofNat 0)), (.int .u8 (.ofNat 0)), (.int .u8 (.ofNat 0)), (.int .u8 (.ofNat 0)), (.int .u8 (.ofNat 0)), (.int .u8 (.ofNat 0)), (.int .u8 (.ofNat 0)), (.int .u8 (.ofNat 0)), (.int .u8 (.ofNat 0)), (.int .u8 (.ofNat 0)), (.int .u8 (.ofNat 0)), (.int .u8 (.ofNat 0)), (.int .u8 (.ofNat 0)), (.int .u8 (.ofNat 0)), (.int .u8 (.ofNat 0)), (.int .u8 (.ofNat 0)), (.int .u8 (.ofNat 0)), (.int .u8 (.ofNat 0)), (.int .u8 (.ofNat 0)), (.int .u8 (.ofNat 0)), (.int .u8 (.ofNat 0)), (.int .u8 (.ofNat 0)), (.int .u8 (.ofNat 0)), (.int .u8 (.ofNat 0)), (.int .u8 (.ofNat 0)), (.int .u8 (.ofNat 0)), (.int .u8 (.ofNat 0)), (.int .u8 (.ofNat 0)), (.int .u8 (.ofNat 0)), (.int .u8 (.ofNat 0)), (.int .u8 (.ofNat 0)), (.int .u8 (.ofNat 0)), (.int .u8 (.ofNat 0)), (.int .u8 (.ofNat 0)), (.int .u8 (.ofNat 0)), (.int .u8 (.ofNat 0)), (.int .u8 (.ofNat 0)), (.int .u8 (.ofNat 0)), (.int .u8 (.ofNat 0)), (.int .u8 (.ofNat 0)), (.int .u8 (.ofNat 0)), (.int .u8 (.ofNat 0)), (.int .u8 (.ofNat 0)), (.int .u8 (.ofNat 0)), (.int .u8 (.ofNat 0)), (.int .u8 (.ofNat 0)), (.int .u8 (.ofNat 0)), (.int .u8 (.ofNat 0)), (.int .u8 (.ofNat 0)), (.int .u8 (.ofNat 0)), (.int .u8 (.ofNat 0)), (.int .u8 (.ofNat 0)), (.int .u8 (.ofNat 0)), (.int .u8 (.ofNat 0)), (.int .u8 (.ofNat 0)), (.int .u8 (.ofNat 0)), (.int .u8 (.ofNat 0)), (.int .u8 (.ofNat 0)), (.int .u8 (.ofNat 0)), (.int .u8 (.ofNat 0)), (.int .u8 (.ofNat 0)), (.int .u8 (.ofNat 0)), (.int .u8 (.ofNat 0)), (.int .u8 (.ofNat 0)), (.int .u8 (.ofNat 0)), (.int .u8 (.ofNat 0)), (.int .u8 (.ofNat 0)), (.int .u8 (.ofNat 0)), (.int .u8 (.ofNat 0)), (.int .u8 (.ofNat 0)), (.int .u8 (.ofNat 0)), (.int .u8 (.ofNat 0)), (.int .u8 (.ofNat 0)), (.int .u8 (.ofNat 0)), (.int .u8 (.ofNat 0)), (.int .u8 (.ofNat 0)), (.int .u8 (.ofNat 0)), (.int .u8 (.ofNat 0)), (.int .u8 (.ofNat 0)), (.int .u8 (.ofNat 0)), (.int .u8 (.ofNat 0)), (.int .u8 (.ofNat 0)), (.int .u8 (.ofNat 0)), (.int .u8 (.ofNat 0)), (.int .u8 (.ofNat 0)), (.int .u8 (.ofNat 0)), (.int .u8 (.ofNat 0)), (.int .u8 (.ofNat 0)), (.int .u8 (.ofNat 0)), (.int .u8 (.ofNat 0)), (.int .u8 (.ofNat 0)), (.int .u8 (.ofNat 0)), (.int .u8 (.ofNat 0)), (.int .u8 (.ofNat 0)), (.int .u8 (.ofNat 0)), (.int .u8 (.ofNat 0)), (.int .u8 (.ofNat 0)), (.int .u8 (.ofNat 0)), (.int .u8 (.ofNat 0)), (.int .u8 (.ofNat 0)), (.int .u8 (.ofNat 0)), (.int .u8 (.ofNat 0)), (.int .u8 (.ofNat 0)), (.int .u8 (.ofNat 0)), (.int .u8 (.ofNat 0)), (.int .u8 (.ofNat 0)), (.int .u8 (.ofNat 0)), (.int .u8 (.ofNat 0)), (.int .u8 (.ofNat 0)), (.int .u8 (.ofNat 0)), (.int .u8 (.ofNat 0)), (.int .u8 (.ofNat 0)), (.int .u8 (.ofNat 0)), (.int .u8 (.ofNat 0)), (.int .u8 (.ofNat 0)), (.int .u8 (.ofNat 0)), (.int .u8 (.ofNat 0)), (.int .u8 (.ofNat 0)), (.int .u8 (.ofNat 0)), (.int .u8 (.ofNat 0)), (.int .u8 (.ofNat 0)), (.int .u8 (.ofNat 0)), (.int .u8 (.ofNat 0)), (.int .u8 (.ofNat 0)), (.int .u8 (.ofNat 0)), (.int .u8 (.ofNat 0)), (.int .u8 (.ofNat 0)), (.int .u8 (.ofNat 0)), (.int .u8 (.ofNat 0)), (.int .u8 (.ofNat 0)), (.int .u8 (.ofNat 0)), (.int .u8 (.ofNat 0)), (.int .u8 (.ofNat 0)), (.int .u8 (.ofNat 0)), (.int .u8 (.ofNat 0)), (.int .u8 (.ofNat 0)), (.int .u8 (.ofNat 0)), (.int .u8 (.ofNat 0)), (.int .u8 (.ofNat 0)), (.int .u8 (.ofNat 0)), (.int .u8 (.ofNat 0)), (.int .u8 (.ofNat 0)), (.int .u8 (.ofNat 0)), (.int .u8 (.ofNat 0)), (.int .u8 (.ofNat 0)), (.int .u8 (.ofNat 0)), (.int .u8 (.ofNat 0)), (.int .u8 (.ofNat 0)), (.int .u8 (.ofNat 0)), (.int .u8 (.ofNat 0)), (.int .u8 (.ofNat 0)), (.int .u8 (.ofNat 0)), (.int .u8 (.ofNat 0)), (.int .u8 (.ofNat 0)), (.int .u8 (.ofNat 0)), (.int .u8 (.ofNat 0)), (.int .u8 (.ofNat 0)), (.int .u8 (.ofNat 0)), (.int .u8 (.ofNat 0)), (.int .u8 (.ofNat 0)), (.int .u8 (.ofNat 0)), (.int .u8 (.ofNat 0)), (.int .u8 (.ofNat 0)), (.int .u8 (.ofNat 0)), (.int .u8 (.ofNat 0)), (.int .u8 (.ofNat 0)), (.int .u8 (.ofNat 0)), (.int .u8 (.ofNat 0)), (.int .u8 (.ofNat 0)), (.int .u8 (.ofNat 0)), (.int .u8 (.ofNat 0)), (.int .u8 (.ofNat 0)), (.int .u8 (.ofNat 0)), (.int .u8 (.ofNat 0)), (.int .u8 (.ofNat 0)), (.int .u8 (.ofNat 0)), (.int .u8 (.ofNat 0)), (.int .u8 (.ofNat 0)), (.int .u8 (.ofNat 0)), (.int .u8 (.ofNat 0)), (.int .u8 (.ofNat 0)), (.int .u8 (.ofNat 0)), (.int .u8 (.ofNat 0)), (.int .u8 (.ofNat 0)), (.int .u8 (.ofNat 0)), (.int .u8 (.ofNat 0)), (.int .u8 (.ofNat 0)), (.int .u8 (.ofNat 0)), (.int .u8 (.ofNat 0)), (.int .u8 (.ofNat 0)), (.int .u8 (.ofNat 0)), (.int .u8 (.ofNat 0)), (.int .u8 (.ofNat 0)), (.int .u8 (.ofNat 0)), (.int .u8 (.ofNat 0)), (.int .u8 (.ofNat 0)), (.int .u8 (.ofNat 0)), (.int .u8 (.ofNat 0)), (.int .u8 (.ofNat 0)), (.int .u8 (.ofNat 0)), (.int .u8 (.ofNat 0)), (.int .u8 (.ofNat 0)), (.int .u8 (.ofNat 0)), (.int .u8 (.ofNat 0)), (.int .u8 (.ofNat 0)), (.int .u8 (.ofNat 0)), (.int .u8 (.ofNat 0)), (.int .u8 (.ofNat 0)), (.int .u8 (.ofNat 0)), (.int .u8 (.ofNat 0)), (.int .u8 (.ofNat 0)), (.int .u8 (.ofNat 0)), (.int .u8 (.ofNat 0)), (.int .u8 (.ofNat 0)), (.int .u8 (.ofNat 0)), (.int .u8 (.ofNat 0)), (.int .u8 (.ofNat 0)), (.int .u8 (.ofNat 0)), (.int .u8 (.ofNat 0)), (.int .u8 (.ofNat 0)), (.int .u8 (.ofNat 0)), (.int .u8 (.ofNat 0)), (.int .u8 (.ofNat 0)), (.int .u8 (.ofNat 0)), (.int .u8 (.ofNat 0)), (.int .u8 (.ofNat 0)), (.int .u8 (.ofNat 0)), (.int .u8 (.ofNat 0)), (.int .u8 (.ofNat 0)), (.int .u8 (.ofNat 0)), (.int .u8 (.ofNat 0)), (.int .u8 (.ofNat 0)), (.int .u8 (.ofNat 0)), (.int .u8 (.ofNat 0)), (.int .u8 (.ofNat 0)), (.int .u8 (.ofNat 0)), (.int .u8 (.ofNat 0)), (.int .u8 (.ofNat 0)), (.int .u8 (.ofNat 0)), (.int .u8 (.ofNat 0)), (.int .u8 (.ofNat 0)), (.int .u8 (.ofNat 0)), (.int .u8 (.ofNat 0)), (.int .u8 (.ofNat 0)), (.int .u8 (.ofNat 0)), (.int .u8 (.ofNat 0)), (.int .u8 (.ofNat 0)), (.int .u8 (.ofNat 0)), (.int .u8 (.ofNat 0)), (.int .u8 (.ofNat 0)), (.int .u8 (.ofNat 0)), (.int .u8 (.ofNat 0)), (.int .u8 (.ofNat 0)), (.int .u8 (.ofNat 0)), (.int .u8 (.ofNat 0)), (.int .u8 (.ofNat 0)), (.int .u8 (.ofNat 0)), (.int .u8 (.ofNat 0)), (.int .u8 (.ofNat 0)), (.int .u8 (.ofNat 0)), (.int .u8 (.ofNat 0)), (.int .u8 (.ofNat 0)), (.int .u8 (.ofNat 0)), (.int .u8 (.ofNat 0)), (.int .u8 (.ofNat 0)), (.int .u8 (.ofNat 0)), (.int .u8 (.ofNat 0)), (.int .u8 (.ofNat 0)), (.int .u8 (.ofNat 0)), (.int .u8 (.ofNat 0)), (.int .u8 (.ofNat 0)), (.int .u8 (.ofNat 0)), (.int .u8 (.ofNat 0)), (.int .u8 (.ofNat 0)), (.int .u8 (.ofNat 0)), (.int .u8 (.ofNat 0)), (.int .u8 (.ofNat 0)), (.int .u8 (.ofNat 0)), (.int .u8 (.ofNat 0)), (.int .u8 (.ofNat 0)), (.int .u8 (.ofNat 0)), (.int .u8 (.ofNat 0)), (.int .u8 (.ofNat 0)), (.int .u8 (.ofNat 0)), (.int .u8 (.ofNat 0)), (.int .u8 (.ofNat 0)), (.int .u8 (.ofNat 0)), (.int .u8 (.ofNat 0)), (.int .u8 (.ofNat 0)), (.int .u8 (.ofNat 0)), (.int .u8 (.ofNat 0)), (.int .u8 (.ofNat 0)), (.int .u8 (.ofNat 0)), (.int .u8 (.ofNat 0)), (.int .u8 (.ofNat 0)), (.int .u8 (.ofNat 0)), (.int .u8 (.ofNat 0)), (.int .u8 (.ofNat 0)), (.int .u8 (.ofNat 0)), (.int .u8 (.ofNat 0)), (.int .u8 (.ofNat 0)), (.int .u8 (.ofNat 0)), (.int .u8 (.ofNat 0)), (.int .u8 (.ofNat 0)), (.int .u8 (.ofNat 0)), (.int .u8 (.ofNat 0)), (.int .u8 (.ofNat 0)), (.int .u8 (.ofNat 0)), (.int .u8 (.ofNat 0)), (.int .u8 (.ofNat 0)), (.int .u8 (.ofNat 0)), (.int .u8 (.ofNat 0)), (.int .u8 (.ofNat 0)), (.int .u8 (.ofNat 0)), (.int .u8 (.ofNat 0)), (.int .u8 (.ofNat 0)), (kI 0), (kI 0), (.bool false), (.bool false)])
 slC (vS t0) none (some (vI t3)) fun vt127 => asS vt127 fun t127 =>
 cal D 130 [t23, (vS t127)] h7 fun t128 h8 =>
 asB t128 fun t128a =>
 let t129 := !t128a
 br t129 (
 let t131 := (AV.iface 121 (vI (Int.ofNat 2)))
 some (.ret (.tup [((.flt .f64 0) : AV), (vI t3), t131]) h8, .no)) (
 cal D 131 [t23, ((.ptr p7 0) : AV)] h8 fun t133 h9 =>
 extC t133 0 fun vt134 => asI .u64 vt134 fun t134 =>
 extC t133 1 fun vt135 => asB vt135 fun t135 =>
 obQ (evP (.xt .ffrom [(.c (AV.int .u64 t134))]) .leaf) fun t137 =>
 br t135 (
 let t139 := (AV.iface 121 (vI (Int.ofNat 1)))
 S115_1 D m t137 t3 t139 h9) (
 S115_1 D m t137 t3 t4 h9))
def e115_2 (k t0 t3 t4 t8 t9 t11 t16 h) := kN k [(p0, (vS t0)), (p3, (vI t3)), (p4, t4), (p8, (AV.int .u64 t8)), (p9, (vI t9)), (p11, (vB t11)), (p16, (AV.int .u64 t16))] h
def S115_2 (D : CallD) (m : Nat) (t0 : LN) (t3 : Int) (t4 : AV) (t8 t9 : Int) (t11 : Bool) (t16 : Int) (h : HP) : Res2 :=
 cal D 135 [(AV.int .u64 t8), (vI t9), (AV.int .u64 t16)] h fun t103 h11 =>
 extC t103 0 fun t104 =>
 extC t103 1 fun t105 =>
 let t107 := !t11
 br t107 (
 some (.ret (.tup [t104, (vI t3), t105]) h11, .no)) (
 let t113 := wrQ .u64 (addQ t8 (Int.ofNat 1))
 cal D 135 [(AV.int .u64 t113), (vI t9), (AV.int .u64 t16)] h11 fun t116 h12 =>
 extC t116 0 fun t117 =>
 extC t116 1 fun t118 =>
 binC .eql t104 t117 fun vt121 => asB vt121 fun t121 =>
 br t121 (
 some (.ret (.tup [t104, (vI t3), t105]) h12, .no)) (
 S115_0 D m t0 t3 t4 h12))
def e115_3 (k t0 h) := kN k [(p0, (vS t0))] h
def S115_3 (D : CallD) (m : Nat) (t0 : LN) (h : HP) : Res2 :=
 cal D 123 [(vS t0)] h fun t28 h4 =>
 extC t28 0 fun t29 =>
 extC t28 1 fun vt30 => asI .i64 vt30 fun t30 =>
 extC t28 2 fun vt31 => asB vt31 fun t31 =>
 br t31 (
 some (.ret (.tup [t29, (vI t30), (.nili : AV)]) h4, .no)) (
 cal D 124 [(vS t0)] h4 fun t37 h5 =>
 extC t37 0 fun vt38 => asI .u64 vt38 fun t38 =>
 extC t37 1 fun vt39 => asI .i64 vt39 fun t39 =>
 extC t37 2 fun vt40 => asB vt40 fun t40 =>
 extC t37 3 fun vt41 => asB vt41 fun t41 =>
 extC t37 4 fun vt42 => asB vt42 fun t42 =>
 extC t37 5 fun vt43 => asI .i64 vt43 fun t43 =>
 extC t37 6 fun vt44 => asB vt44 fun t44 =>
 let t46 := !t44
 br t46 (
 let t48 := (AV.iface 121 (vI (Int.ofNat 2)))
 some (.ret (.tup [((.flt .f64 0) : AV), (vI t43), t48]) h5, .no)) (
 br t42 (
 slC (vS t0) none (some (vI t43)) fun vt53 => asS vt53 fun t53 =>
 cal D 125 [(vS t53), ((.ptr p7 0) : AV), (AV.int .u64 t38), (vI t39), (vB t40), (vB t41)] h5 fun t58 h6 =>
 extC t58 0 fun t59 =>
 extC t58 1 fun t60 =>
 some (.ret (.tup [t59, (vI t43), t60]) h6, .no)) (
 ldB ((.ptr p6 0) : AV) h5 fun t64 =>
 br t64 (
 cal D 132 [(vB t40)] h5 fun t66 h10 =>
 asI .u64 t66 fun t66a =>
 let t67 := shlF .u64 t66a 63
 let t69 := eqQ t38 (Int.ofNat 0)
 br t69 (
 obI .u64 (intBin .or .u64 t67 (Int.ofNat 0)) fun t71 =>
 obQ (evP (.xt .ffrom [(.c (AV.int .u64 t71))]) .leaf) fun t72 =>
 some (.ret (.tup [t72, (vI t43), (.nili : AV)]) h10, .no)) (
 let t75 := ltQ (Int.ofNat 310) t39
 br t75 (
 obI .u64 (intBin .or .u64 t67 (Int.ofNat 9218868437227405312)) fun t77 =>
 obQ (evP (.xt .ffrom [(.c (AV.int .u64 t77))]) .leaf) fun t78 =>
 let t80 := (AV.iface 121 (vI (Int.ofNat 1)))
 some (.ret (.tup [t78, (vI t43), t80]) h10, .no)) (
 let t82 := ltQ t39 (Int.negSucc 344)
 br t82 (
 obI .u64 (intBin .or .u64 t67 (Int.ofNat 0)) fun t84 =>
 obQ (evP (.xt .ffrom [(.c (AV.int .u64 t84))]) .leaf) fun t85 =>
 some (.ret (.tup [t85, (vI t43), (.nili : AV)]) h10, .no)) (
 let t88 := !t41
 br t88 (
 cal D 134 [(AV.int .u64 t38), (vI t39), (vB t40)] h10 fun t93 h13 =>
 extC t93 0 fun t94 =>
 extC t93 1 fun vt95 => asB vt95 fun t95 =>
 br t95 (
 some (.ret (.tup [t94, (vI t43), (.nili : AV)]) h13, .no)) (
 S115_2 D m t0 t43 (.nili : AV) t38 t39 t41 t67 h13)) (
 S115_2 D m t0 t43 (.nili : AV) t38 t39 t41 t67 h10))))) (
 S115_0 D m t0 t43 (.nili : AV) h5))))
def S115 : SFn := fun D m args h u => nou u <| popS args fun t0 args => endA args (S115_3 D m t0 h)
theorem T115_1 (hE : FX x115 D m E) : S115_1 D m = e115_1 (E c115_1 []) := by unfold S115_1; rw [hE c115_1]; kernel_rfl
theorem T115_0 (hE : FX x115 D m E) : S115_0 D m = e115_0 (E c115_0 []) := by unfold S115_0; rw [T115_1 hE, hE c115_0]; kernel_rfl
theorem T115_2 (hE : FX x115 D m E) : S115_2 D m = e115_2 (E c115_2 [.sj v115_0 c115_0]) := by unfold S115_2; rw [T115_0 hE, hE c115_2]; kernel_rfl
theorem T115_3 (hE : FX x115 D m E) : S115_3 D m = e115_3 (E c115_e []) := by unfold S115_3; rw [T115_2 hE, T115_0 hE, hE c115_e]; kernel_rfl
theorem X115 : XTie S115 x115 := X_of fun D m E hE args h u => by unfold S115; rw [T115_3 hE]; kernel_rfl
/- 123 -/
def v123_0 : List Pos := []
def c123_0 : XC := (.sO [.mv p2 (.c (.flt .f64 0)) .v, .mv p3 (ci 0) tI, .mv p4 (cb false) .b] (.s .ret))
def v123_1 : List Pos := [p0]
def c123_1 : XC := (.seq (.seq (.oX [.mv p46 q0 .s, .cl p47 141 [q46, (.c (.str [110, 97, 110]))] tI, .bn p48 .eql q47 (ci 3) .b]) (.cond q48 (.seq (.oX [.cl p49 143 [] .v, .mv p2 q49 .v, .mv p3 (ci 3) tI, .mv p4 (cb true) .b]) .ret) .skip)) (.s (.exit 0)))
def v123_3 : List Pos := []
def c123_3 : XC := (.s (.exit 0))
def v123_4 : List Pos := [p5, p6, p7]
def c123_4 : XC := (.sO [.mv p35 q7 tI, .bn p36 .eql q35 (ci 3) .b, .mv p37 q36 .b, .ge p37 (XL.of [.G p37 false p38 (.mov q7) tI, .G p37 false p39 (.bin .eql q38 (ci 8)) .b, .P p40 (.pick q37 (cb true) q39) .b]) p40 .b] (.cond q40 (.sO [.mv p41 q5 tI, .cl p42 142 [q41] .v, .mv p43 q6 tI, .mv p44 q7 tI, .bn p45 .add q43 q44 tI, .mv p2 q42 .v, .mv p3 q45 tI, .mv p4 (cb true) .b] (.s .ret)) (.s .skip)))
def v123_2 : List Pos := [p0, p5, p6]
def c123_2 : XC := (.sj v123_3 (.sO [.mv p27 q0 .s, .cl p28 141 [q27, (.c (.str [105, 110, 102, 105, 110, 105, 116, 121]))] tI, .mv p7 q28 tI] (.sj v123_4 (.sO [.mv p29 q7 tI, .bn p30 .lss (ci 3) q29 .b, .mv p31 q30 .b, .ge p31 (XL.of [.G p31 true p32 (.mov q7) tI, .G p31 true p33 (.bin .lss q32 (ci 8)) .b, .P p34 (.pick q31 q33 (cb false)) .b]) p34 .b] (.cond q34 (.s (.oX [.mv p7 (ci 3) tI])) (.s .skip))) c123_4)) c123_3)
def v123_6 : List Pos := [p0, p5]
def c123_6 : XC := (.sO [.mv p6 (ci 1) tI] (.s (.oX [.mv p25 q0 .s, .P p26 (.slice .str q25 (some (ci 1)) none none) .s, .mv p0 q26 .s])))
def v123_5 : List Pos := [p0, p5]
def c123_5 : XC := (.sj v123_6 (.sO [.mv p22 q0 .s, .P p23 (.idxs q22 (ci 0)) tC, .bn p24 .eql q23 (.c (.int .u8 (.ofNat 45))) .b] (.cond q24 (.s (.oX [.mv p5 (.c (.int .i64 (.negSucc 0))) tI])) (.s .skip))) c123_6)
def v123_7 : List Pos := []
def c123_7 : XC := (.s (.exit 0))
def v123_10 : List Pos := [p0, p19]
def c123_10 : XC := (.cond q19 (.s (.exit 3)) (.s .skip))
def v123_9 : List Pos := [p0, p12]
def c123_9 : XC := (.sj v123_10 (.sO [.bn p20 .eql q12 (.c (.int .u8 (.ofNat 110))) .b, .mv p19 q20 .b] (.cond q19 (.s .skip) (.s (.oX [.bn p21 .eql q12 (.c (.int .u8 (.ofNat 78))) .b, .mv p19 q21 .b])))) c123_10)
def v123_11 : List Pos := [p0, p5, p6, p12, p16]
def c123_11 : XC := (.cond q16 (.s (.exit 2)) (.s .skip))
def v123_8 : List Pos := [p0, p5, p6, p12]
def c123_8 : XC := (.sj v123_9 (.sj v123_11 (.sO [.bn p17 .eql q12 (.c (.int .u8 (.ofNat 105))) .b, .mv p16 q17 .b] (.cond q16 (.s .skip) (.s (.oX [.bn p18 .eql q12 (.c (.int .u8 (.ofNat 73))) .b, .mv p16 q18 .b])))) c123_11) c123_9)
def v123_12 : List Pos := [p0, p5, p6, p12, p13]
def c123_12 : XC := (.cond q13 (.s (.exit 1)) (.s .skip))
def c123_e : XC := (.sO [.mv p2 (.c (.flt .f64 0)) .v, .mv p3 (ci 0) tI, .mv p4 (cb false) .b] (.seq (.seq (.oX [.mv p8 q0 .s, .P p9 (.lens q8) tI, .bn p10 .eql q9 (ci 0) .b]) (.cond q10 (.seq (.oX [.mv p2 (.c (.flt .f64 0)) .v, .mv p3 (ci 0) tI, .mv p4 (cb false) .b]) .ret) .skip)) (.sO [.mv p5 (ci 1) tI] (.sO [.mv p6 (ci 0) tI] (.sj v123_0 (.sO [.mv p11 q0 .s, .P p12 (.idxs q11 (ci 0)) tC] (.block 0 (.sj v123_1 (.block 3 (.sj v123_2 (.block 2 (.sj v123_5 (.block 1 (.sj v123_7 (.sj v123_8 (.sj v123_12 (.sO [.bn p14 .eql q12 (.c (.int .u8 (.ofNat 43))) .b, .mv p13 q14 .b] (.cond q13 (.s .skip) (.s (.oX [.bn p15 .eql q12 (.c (.int .u8 (.ofNat 45))) .b, .mv p13 q15 .b])))) c123_12) c123_8) c123_7)) c123_5)) c123_2)) c123_1))) c123_0)))))
def x123 : XFn := ⟨[.s], false, [(.tmp p2), (.tmp p3), (.tmp p4)], c123_e⟩
def e123_0 (k h) := kN k [] h
def S123_0 (D : CallD) (m : Nat) (h : HP) : Res2 :=
 some (.ret (.tup [((.flt .f64 0) : AV), (vI (Int.ofNat 0)), (vB false)]) h, .no)
def e123_1 (k t0 h) := kN k [(p0, (vS t0))] h
def S123_1 (D : CallD) (m : Nat) (t0 : LN) (h : HP) : Res2 :=
 cal D 141 [(vS t0), (vS ([110, 97, 110] : LN))] h fun t47 h14 =>
 asI .i64 t47 fun t47a =>
 let t48 := eqQ t47a (Int.ofNat 3)
 br t48 (
 cal D 143 [] h14 fun t49 h15 =>
 some (.ret (.tup [t49, (vI (Int.ofNat 3)), (vB true)]) h15, .no)) (
 S123_0 D m h14)
def e123_3 (k h) := kN k [] h
def S123_3 (D : CallD) (m : Nat) (h : HP) : Res2 :=
 S123_0 D m h
def e123_4 (k t5 t6 t7 h) := kN k [(p5, (vI t5)), (p6, (vI t6)), (p7, (vI t7))] h
def S123_4 (D : CallD) (m : Nat) (t5 t6 t7 : Int) (h : HP) : Res2 :=
 let t36 := eqQ t7 (Int.ofNat 3)
 obB (brV t36 (
 some (vB true)) (
 let t39 := eqQ t7 (Int.ofNat 8)
 some (vB t39))) fun t40 =>
 br t40 (
 cal D 142 [(vI t5)] h fun t42 h17 =>
 let t45 := wrQ .i64 (addQ t6 t7)
 some (.ret (.tup [t42, (vI t45), (vB true)]) h17, .no)) (
 S123_3 D m h)
def e123_2 (k t0 t5 t6 h) := kN k [(p0, (vS t0)), (p5, (vI t5)), (p6, (vI t6))] h
def S123_2 (D : CallD) (m : Nat) (t0 : LN) (t5 t6 : Int) (h : HP) : Res2 :=
 cal D 141 [(vS t0), (vS ([105, 110, 102, 105, 110, 105, 116, 121] : LN))] h fun t28 h16 =>
 asI .i64 t28 fun t28a =>
 let t30 := ltQ (Int.ofNat 3) t28a
 obB (brV t30 (
 let t33 := ltQ t28a (Int.ofNat 8)
 some (vB t33)) (
 some (vB false))) fun t34 =>
 br t34 (
 S123_4 D m t5 t6 (Int.ofNat 3) h16) (
 S123_4 D m t5 t6 t28a h16)
def e123_6 (k t0 t5 h) := kN k [(p0, (vS t0)), (p5, (vI t5))] h
def S123_6 (D : CallD) (m : Nat) (t0 : LN) (t5 : Int) (h : HP) : Res2 :=
 slC (vS t0) (some (vI (Int.ofNat 1))) none fun vt26 => asS vt26 fun t26 =>
 S123_2 D m t26 t5 (Int.ofNat 1) h
def e123_5 (k t0 t5 h) := kN k [(p0, (vS t0)), (p5, (vI t5))] h
def S123_5 (D : CallD) (m : Nat) (t0 : LN) (t5 : Int) (h : HP) : Res2 :=
 ixC (vS t0) (vI (Int.ofNat 0)) fun vt23 => asI .u8 vt23 fun t23 =>
 let t24 := eqQ t23 (Int.ofNat 45)
 br t24 (
 S123_6 D m t0 (Int.negSucc 0) h) (
 S123_6 D m t0 t5 h)
def e123_7 (k h) := kN k [] h
def S123_7 (D : CallD) (m : Nat) (h : HP) : Res2 :=
 S123_0 D m h
def e123_10 (k t0 t19 h) := kN k [(p0, (vS t0)), (p19, (vB t19))] h
def S123_10 (D : CallD) (m : Nat) (t0 : LN) (t19 : Bool) (h : HP) : Res2 :=
 br t19 (
 S123_1 D m t0 h) (
 S123_7 D m h)
def e123_9 (k t0 t12 h) := kN k [(p0, (vS t0)), (p12, (vC t12))] h
def S123_9 (D : CallD) (m : Nat) (t0 : LN) (t12 : Int) (h : HP) : Res2 :=
 let t20 := eqQ t12 (Int.ofNat 110)
 br t20 (
 S123_10 D m t0 t20 h) (
 let t21 := eqQ t12 (Int.ofNat 78)
 S123_10 D m t0 t21 h)
def e123_11 (k t0 t5 t6 t12 t16 h) := kN k [(p0, (vS t0)), (p5, (vI t5)), (p6, (vI t6)), (p12, (vC t12)), (p16, (vB t16))] h
def S123_11 (D : CallD) (m : Nat) (t0 : LN) (t5 t6 t12 : Int) (t16 : Bool) (h : HP) : Res2 :=
 br t16 (
 S123_2 D m t0 t5 t6 h) (
 S123_9 D m t0 t12 h)
def e123_8 (k t0 t5 t6 t12 h) := kN k [(p0, (vS t0)), (p5, (vI t5)), (p6, (vI t6)), (p12, (vC t12))] h
def S123_8 (D : CallD) (m : Nat) (t0 : LN) (t5 t6 t12 : Int) (h : HP) : Res2 :=
 let t17 := eqQ t12 (Int.ofNat 105)
 br t17 (
 S123_11 D m t0 t5 t6 t12 t17 h) (
 let t18 := eqQ t12 (Int.ofNat 73)
 S123_11 D m t0 t5 t6 t12 t18 h)
def e123_12 (k t0 t5 t6 t12 t13 h) := kN k [(p0, (vS t0)), (p5, (vI t5)), (p6, (vI t6)), (p12, (vC t12)), (p13, (vB t13))] h
def S123_12 (D : CallD) (m : Nat) (t0 : LN) (t5 t6 t12 : Int) (t13 : Bool) (h : HP) : Res2 :=
 br t13 (
 S123_5 D m t0 t5 h) (
 S123_8 D m t0 t5 t6 t12 h)
def e123_13 (k t0 h) := kN k [(p0, (vS t0))] h
def S123_13 (D : CallD) (m : Nat) (t0 : LN) (h : HP) : Res2 :=
 let t9 := Int.ofNat (lenL t0)
 let t10 := eqQ t9 (Int.ofNat 0)
 br t10 (
 some (.ret (.tup [((.flt .f64 0) : AV), (vI (Int.ofNat 0)), (vB false)]) h, .no)) (
 ixC (vS t0) (vI (Int.ofNat 0)) fun vt12 => asI .u8 vt12 fun t12 =>
 let t14 := eqQ t12 (Int.ofNat 43)
 br t14 (
 S123_12 D m t0 (Int.ofNat 1) (Int.ofNat 0) t12 t14 h) (
 let t15 := eqQ t12 (Int.ofNat 45)
 S123_12 D m t0 (Int.ofNat 1) (Int.ofNat 0) t12 t15 h))
def S123 : SFn := fun D m args h u => nou u <| popS args fun t0 args => endA args (S123_13 D m t0 h)
theorem T123_0 (hE : FX x123 D m E) : S123_0 D m = e123_0 (E c123_0 []) := by unfold S123_0; rw [hE c123_0]; kernel_rfl
theorem T123_1 (hE : FX x123 D m E) : S123_1 D m = e123_1 (E c123_1 [.blk 0, .sj v123_0 c123_0]) := by unfold S123_1; rw [T123_0 hE, hE c123_1]; kernel_rfl
theorem T123_3 (hE : FX x123 D m E) : S123_3 D m = e123_3 (E c123_3 [.blk 3, .sj v123_1 c123_1, .blk 0, .sj v123_0 c123_0]) := by unfold S123_3; rw [T123_0 hE, hE c123_3]; kernel_rfl
theorem T123_4 (hE : FX x123 D m E) : S123_4 D m = e123_4 (E c123_4 [.sj v123_3 c123_3, .blk 3, .sj v123_1 c123_1, .blk 0, .sj v123_0 c123_0]) := by unfold S123_4; rw [T123_3 hE, hE c123_4]; kernel_rfl
theorem T123_2 (hE : FX x123 D m E) : S123_2 D m = e123_2 (E c123_2 [.blk 3, .sj v123_1 c123_1, .blk 0, .sj v123_0 c123_0]) := by unfold S123_2; rw [T123_4 hE, hE c123_2]; kernel_rfl
theorem T123_6 (hE : FX x123 D m E) : S123_6 D m = e123_6 (E c123_6 [.blk 2, .sj v123_2 c123_2, .blk 3, .sj v123_1 c123_1, .blk 0, .sj v123_0 c123_0]) := by unfold S123_6; rw [T123_2 hE, hE c123_6]; kernel_rfl
theorem T123_5 (hE : FX x123 D m E) : S123_5 D m = e123_5 (E c123_5 [.blk 2, .sj v123_2 c123_2, .blk 3, .sj v123_1 c123_1, .blk 0, .sj v123_0 c123_0]) := by unfold S123_5; rw [T123_6 hE, hE c123_5]; kernel_rfl
theorem T123_7 (hE : FX x123 D m E) : S123_7 D m = e123_7 (E c123_7 [.blk 1, .sj v123_5 c123_5, .blk 2, .sj v123_2 c123_2, .blk 3, .sj v123_1 c123_1, .blk 0, .sj v123_0 c123_0]) := by unfold S123_7; rw [T123_0 hE, hE c123_7]; kernel_rfl
theorem T123_10 (hE : FX x123 D m E) : S123_10 D m = e123_10 (E c123_10 [.sj v123_7 c123_7, .blk 1, .sj v123_5 c123_5, .blk 2, .sj v123_2 c123_2, .blk 3, .sj v123_1 c123_1, .blk 0, .sj v123_0 c123_0]) := by unfold S123_10; rw [T123_1 hE, T123_7 hE, hE c123_10]; kernel_rfl
theorem T123_9 (hE : FX x123 D m E) : S123_9 D m = e123_9 (E c123_9 [.sj v123_7 c123_7, .blk 1, .sj v123_5 c123_5, .blk 2, .sj v123_2 c123_2, .blk 3, .sj v123_1 c123_1, .blk 0, .sj v123_0 c123_0]) := by unfold S123_9; rw [T123_10 hE, hE c123_9]; kernel_rfl
theorem T123_11 (hE : FX x123 D m E) : S123_11 D m = e123_11 (E c123_11 [.sj v123_9 c123_9, .sj v123_7 c123_7, .blk 1, .sj v123_5 c123_5, .blk 2, .sj v123_2 c123_2, .blk 3, .sj v123_1 c123_1, .blk 0, .sj v123_0 c123_0]) := by unfold S123_11; rw [T123_2 hE, T123_9 hE, hE c123_11]; kernel_rfl
theorem T123_8 (hE : FX x123 D m E) : S123_8 D m = e123_8 (E c123_8 [.sj v123_7 c123_7, .blk 1, .sj v123_5 c123_5, .blk 2, .sj v123_2 c123_2, .blk 3, .sj v123_1 c123_1, .blk 0, .sj v123_0 c123_0]) := by unfold S123_8; rw [T123_11 hE, hE c123_8]; kernel_rfl
theorem T123_12 (hE : FX x123 D m E) : S123_12 D m = e123_12 (E c123_12 [.sj v123_8 c123_8, .sj v123_7 c123_7, .blk 1, .sj v123_5 c123_5, .blk 2, .sj v123_2 c123_2, .blk 3, .sj v123_1 c123_1, .blk 0, .sj v123_0 c123_0]) := by unfold S123_12; rw [T123_5 hE, T123_8 hE, hE c123_12]; kernel_rfl
theorem T123_13 (hE : FX x123 D m E) : S123_13 D m = e123_13 (E c123_e []) := by unfold S123_13; rw [T123_12 hE, hE c123_e]; kernel_rfl
theorem X123 : XTie S123 x123 := X_of fun D m E hE args h u => by unfold S123; rw [T123_13 hE]; kernel_rfl
/- 124 -/
def v124_7 : List Pos := [p2, p3, p4, p5, p6, p7]
def c124_7 : XC := (.sO [.mv p8 (cb true) .b] (.s .ret))
def c124_9 : XC := (.cond q252 (.s .ret) (.s .skip))
def l124_8 : XL := (XL.of [])
def v124_6 : List Pos := [p0, p2, p3, p4, p5, p6, p7, p8, p9]
def c124_6 : XC := (.sj v124_7 (.opq false (XL.pre [.mv p245 q9 .b, .mv p246 q245 .b, .sp p246, .G p246 true p247 (.mov q0) .s, .G p246 true p248 (.mov q7) tI, .G p246 true p249 (.slice .str q247 none (some q248) none) .s, .o ⟨(some p250), (.call (.fn 103) [q249]), (some (p246, true)), []⟩ .b, .G p246 true p251 (.un .not q250) .b, .P p252 (.pick q246 q251 (cb false)) .b, .jn p246 [p2, p3, p4, p5, p6, p7, p8, p252]] l124_8) c124_9) c124_7)
def v124_5 : List Pos := [p0, p2, p3, p4, p5, p6, p7, p8, p9, p16, p17]
def c124_5 : XC := (.sj v124_6 (.sO [.mv p240 q2 (.i .u64), .bn p241 .neq q240 (.c (.int .u64 (.ofNat 0))) .b] (.cond q241 (.s (.oX [.mv p242 q17 tI, .mv p243 q16 tI, .bn p244 .sub q242 q243 tI, .mv p3 q244 tI])) (.s .skip))) c124_6)
def v124_12 : List Pos := [p0, p2, p3, p4, p5, p6, p7, p8, p9, p16, p17, p19, p20]
def c124_12 : XC := (.s (.oX [.mv p233 q17 tI, .mv p234 q20 tI, .mv p235 q19 tI, .bn p236 .mul q234 q235 tI, .bn p237 .add q233 q236 tI, .mv p17 q237 tI]))
def v124_14 : List Pos := [p0, p2, p3, p4, p5, p6, p7, p8, p9, p16, p17, p19, p20]
def c124_14 : XC := (.s (.oX [.mv p217 q7 tI, .bn p218 .add q217 (ci 1) tI, .mv p7 q218 tI]))
def v124_13 : List Pos := [p0, p2, p3, p4, p5, p6, p7, p8, p9, p16, p17, p19, p20]
def c124_13b : XC := (.seq (.seq (.oX [.mv p195 q7 tI, .mv p196 q0 .s, .P p197 (.lens q196) tI, .bn p198 .lss q195 q197 .b, .mv p199 q198 .b, .ge p199 (XL.of [.G p199 true p200 (.mov q0) .s, .G p199 true p201 (.mov q7) tI, .G p199 true p202 (.idxs q200 q201) tC, .G p199 true p203 (.bin .leq (.c (.int .u8 (.ofNat 48))) q202) .b, .G p199 true p204 (.mov q203) .b, .ge p204 (XL.of [.G p204 true p205 (.mov q0) .s, .G p204 true p206 (.mov q7) tI, .G p204 true p207 (.idxs q205 q206) tC, .G p204 true p208 (.bin .leq q207 (.c (.int .u8 (.ofNat 57)))) .b, .G p199 true p209 (.pick q204 q208 (cb false)) .b]) p209 .b, .G p199 true p210 (.mov q209) .b, .ge p210 (XL.of [.G p210 false p211 (.mov q0) .s, .G p210 false p212 (.mov q7) tI, .G p210 false p213 (.idxs q211 q212) tC, .G p210 false p214 (.bin .eql q213 (.c (.int .u8 (.ofNat 95)))) .b, .G p199 true p215 (.pick q210 (cb true) q214) .b]) p215 .b, .P p216 (.pick q199 q215 (cb false)) .b]) p216 .b]) (.cond q216 .skip (.exit 5))) (.sj v124_14 (.block 6 (.seq (.seq (.oX [.mv p219 q0 .s, .mv p220 q7 tI, .P p221 (.idxs q219 q220) tC, .bn p222 .eql q221 (.c (.int .u8 (.ofNat 95))) .b]) (.cond q222 (.seq (.oX [.mv p9 (cb true) .b]) (.exit 6)) .skip)) (.sO [.mv p223 q20 tI, .bn p224 .lss q223 (ci 10000) .b] (.cond q224 (.s (.oX [.mv p225 q20 tI, .bn p226 .mul q225 (ci 10) tI, .mv p227 q0 .s, .mv p228 q7 tI, .P p229 (.idxs q227 q228) tC, .P p230 (.conv (.ii .i64) q229) tI, .bn p231 .add q226 q230 tI, .bn p232 .sub q231 (ci 48) tI, .mv p20 q232 tI])) (.s .skip))))) c124_14))
def v124_11 : List Pos := [p0, p2, p3, p4, p5, p6, p7, p8, p9, p16, p17, p19]
def c124_11 : XC := (.seq (.seq (.oX [.mv p179 q7 tI, .mv p180 q0 .s, .P p181 (.lens q180) tI, .bn p182 .geq q179 q181 .b, .mv p183 q182 .b, .ge p183 (XL.of [.G p183 false p184 (.mov q0) .s, .G p183 false p185 (.mov q7) tI, .G p183 false p186 (.idxs q184 q185) tC, .G p183 false p187 (.bin .lss q186 (.c (.int .u8 (.ofNat 48)))) .b, .P p188 (.pick q183 (cb true) q187) .b]) p188 .b, .mv p189 q188 .b, .ge p189 (XL.of [.G p189 false p190 (.mov q0) .s, .G p189 false p191 (.mov q7) tI, .G p189 false p192 (.idxs q190 q191) tC, .G p189 false p193 (.bin .gtr q192 (.c (.int .u8 (.ofNat 57)))) .b, .P p194 (.pick q189 (cb true) q193) .b]) p194 .b]) (.cond q194 .ret .skip)) (.sO [.mv p20 (ci 0) tI] (.sj v124_12 (.block 5 (.loop v124_13 c124_13b)) c124_12)))
def c124_15 : XC := (.cond q161 (.sO [.mv p162 q7 tI, .bn p163 .add q162 (ci 1) tI, .mv p7 q163 tI] (.seq (.seq (.oX [.mv p164 q7 tI, .mv p165 q0 .s, .P p166 (.lens q165) tI, .bn p167 .geq q164 q166 .b]) (.cond q167 .ret .skip)) (.sO [.mv p19 (ci 1) tI] (.sj v124_11 (.sO [.mv p168 q0 .s, .mv p169 q7 tI, .P p170 (.idxs q168 q169) tC] (.block 4 (.sO [.bn p172 .eql q170 (.c (.int .u8 (.ofNat 43))) .b, .mv p171 q172 .b] (.cond q171 (.s (.oX [.mv p173 q7 tI, .bn p174 .add q173 (ci 1) tI, .mv p7 q174 tI])) (.sO [.bn p176 .eql q170 (.c (.int .u8 (.ofNat 45))) .b, .mv p175 q176 .b] (.cond q175 (.sO [.mv p177 q7 tI, .bn p178 .add q177 (ci 1) tI, .mv p7 q178 tI] (.s (.oX [.mv p19 (.c (.int .i64 (.negSucc 0))) tI]))) (.s .skip))))))) c124_11)))) (.sO [.mv p238 q10 (.i .u64), .bn p239 .eql q238 (.c (.int .u64 (.ofNat 16))) .b] (.cond q239 (.s .ret) (.s .skip))))
def l124_10 : XL := (XL.of [])
def v124_4 : List Pos := [p0, p2, p3, p4, p5, p6, p7, p8, p9, p10, p12, p16, p17]
def c124_4 : XC := (.sj v124_5 (.opq false (XL.pre [.mv p150 q7 tI, .mv p151 q0 .s, .P p152 (.lens q151) tI, .bn p153 .lss q150 q152 .b, .mv p154 q153 .b, .sp p154, .G p154 true p155 (.mov q0) .s, .G p154 true p156 (.mov q7) tI, .G p154 true p157 (.idxs q155 q156) tC, .o ⟨(some p158), (.call (.fn 102) [q157]), (some (p154, true)), []⟩ tC, .G p154 true p159 (.mov q12) tC, .G p154 true p160 (.bin .eql q158 q159) .b, .P p161 (.pick q154 q160 (cb false)) .b, .jn p154 [p0, p2, p3, p4, p5, p6, p7, p8, p9, p10, p16, p17, p161]] l124_10) c124_15) c124_5)
def v124_3 : List Pos := [p0, p2, p3, p4, p5, p6, p7, p8, p9, p10, p12, p16, p17]
def c124_3 : XC := (.sj v124_4 (.sO [.mv p144 q10 (.i .u64), .bn p145 .eql q144 (.c (.int .u64 (.ofNat 16))) .b] (.cond q145 (.sO [.mv p146 q17 tI, .bn p147 .mul q146 (ci 4) tI, .mv p17 q147 tI] (.s (.oX [.mv p148 q16 tI, .bn p149 .mul q148 (ci 4) tI, .mv p16 q149 tI]))) (.s .skip))) c124_4)
def v124_2 : List Pos := [p0, p2, p3, p4, p5, p6, p7, p8, p9, p10, p12, p13, p14, p15, p16, p17]
def c124_2 : XC := (.seq (.seq (.oX [.mv p139 q14 .b, .P p140 (.un .not q139) .b]) (.cond q140 .ret .skip)) (.sj v124_3 (.sO [.mv p141 q13 .b, .P p142 (.un .not q141) .b] (.cond q142 (.s (.oX [.mv p143 q15 tI, .mv p17 q143 tI])) (.s .skip))) c124_3))
def v124_17 : List Pos := [p0, p2, p3, p4, p5, p6, p7, p8, p9, p10, p11, p12, p13, p14, p15, p16, p17]
def c124_17 : XC := (.s (.oX [.mv p61 q7 tI, .bn p62 .add q61 (ci 1) tI, .mv p7 q62 tI]))
def v124_18 : List Pos := [p0, p2, p3, p4, p5, p6, p7, p8, p9, p10, p12, p13, p14, p15, p16, p17]
def c124_18 : XC := (.s (.exit 1))
def v124_19 : List Pos := [p0, p2, p3, p4, p5, p6, p7, p8, p9, p10, p11, p12, p13, p14, p15, p16, p17]
def c124_19 : XC := (.s (.exit 2))
def v124_22 : List Pos := [p0, p2, p3, p4, p5, p6, p7, p8, p9, p10, p11, p12, p13, p14, p15, p16, p17]
def c124_22 : XC := (.s (.exit 2))
def c124_23 : XC := (.cond q109 (.sO [.mv p14 (cb true) .b] (.sO [.mv p123 q15 tI, .bn p124 .add q123 (ci 1) tI, .mv p15 q124 tI] (.sj v124_22 (.sO [.mv p125 q16 tI, .mv p126 q11 tI, .bn p127 .lss q125 q126 .b] (.cond q127 (.sO [.mv p128 q2 (.i .u64), .bn p129 .mul q128 (.c (.int .u64 (.ofNat 16))) (.i .u64), .mv p2 q129 (.i .u64)] (.sO [.mv p130 q2 (.i .u64), .mv p131 q18 tC, .cl p132 102 [q131] tC, .bn p133 .sub q132 (.c (.int .u8 (.ofNat 97))) tC, .bn p134 .add q133 (.c (.int .u8 (.ofNat 10))) tC, .P p135 (.conv (.ii .u64) q134) (.i .u64), .bn p136 .add q130 q135 (.i .u64), .mv p2 q136 (.i .u64)] (.s (.oX [.mv p137 q16 tI, .bn p138 .add q137 (ci 1) tI, .mv p16 q138 tI])))) (.s (.oX [.mv p5 (cb true) .b])))) c124_22))) (.s .skip))
def l124_21 : XL := (XL.of [.P p122 (.eqb false (cb true) q121) .b, .mv p109 q122 .b])
def l124_20 : XL := (XL.pre [.mv p117 q116 .b, .sp p117, .G p117 true p118 (.mov q18) tC, .o ⟨(some p119), (.call (.fn 102) [q118]), (some (p117, true)), []⟩ tC, .G p117 true p120 (.bin .leq q119 (.c (.int .u8 (.ofNat 102)))) .b, .P p121 (.pick q117 q120 (cb false)) .b, .jn p117 [p0, p2, p3, p4, p5, p6, p7, p8, p9, p10, p11, p12, p13, p14, p15, p16, p17, p18, p121]] l124_21)
def v124_16 : List Pos := [p0, p2, p3, p4, p5, p6, p7, p8, p9, p10, p11, p12, p13, p14, p15, p16, p17]
def c124_16b : XC := (.seq (.seq (.oX [.mv p57 q7 tI, .mv p58 q0 .s, .P p59 (.lens q58) tI, .bn p60 .lss q57 q59 .b]) (.cond q60 .skip (.exit 1))) (.sj v124_17 (.block 2 (.sj v124_18 (.sO [.mv p63 q0 .s, .mv p64 q7 tI, .P p65 (.idxs q63 q64) tC, .mv p18 q65 tC] (.block 3 (.sO [.mv p67 q18 tC, .bn p68 .eql q67 (.c (.int .u8 (.ofNat 95))) .b, .P p69 (.eqb false (cb true) q68) .b, .mv p66 q69 .b] (.cond q66 (.sO [.mv p9 (cb true) .b] (.s (.exit 2))) (.sO [.mv p71 q18 tC, .bn p72 .eql q71 (.c (.int .u8 (.ofNat 46))) .b, .P p73 (.eqb false (cb true) q72) .b, .mv p70 q73 .b] (.cond q70 (.seq (.seq (.oX [.mv p74 q13 .b]) (.cond q74 (.exit 1) .skip)) (.sO [.mv p13 (cb true) .b] (.sO [.mv p75 q15 tI, .mv p17 q75 tI] (.s (.exit 2))))) (.sO [.mv p77 q18 tC, .bn p78 .leq (.c (.int .u8 (.ofNat 48))) q77 .b, .mv p79 q78 .b, .ge p79 (XL.of [.G p79 true p80 (.mov q18) tC, .G p79 true p81 (.bin .leq q80 (.c (.int .u8 (.ofNat 57)))) .b, .P p82 (.pick q79 q81 (cb false)) .b]) p82 .b, .P p83 (.eqb false (cb true) q82) .b, .mv p76 q83 .b] (.cond q76 (.sO [.mv p14 (cb true) .b] (.seq (.seq (.oX [.mv p84 q18 tC, .bn p85 .eql q84 (.c (.int .u8 (.ofNat 48))) .b, .mv p86 q85 .b, .ge p86 (XL.of [.G p86 true p87 (.mov q15) tI, .G p86 true p88 (.bin .eql q87 (ci 0)) .b, .P p89 (.pick q86 q88 (cb false)) .b]) p89 .b]) (.cond q89 (.seq (.oX [.mv p90 q17 tI, .bn p91 .sub q90 (ci 1) tI, .mv p17 q91 tI]) (.exit 2)) .skip)) (.sO [.mv p92 q15 tI, .bn p93 .add q92 (ci 1) tI, .mv p15 q93 tI] (.sj v124_19 (.sO [.mv p94 q16 tI, .mv p95 q11 tI, .bn p96 .lss q94 q95 .b] (.cond q96 (.sO [.mv p97 q2 (.i .u64), .mv p98 q10 (.i .u64), .bn p99 .mul q97 q98 (.i .u64), .mv p2 q99 (.i .u64)] (.sO [.mv p100 q2 (.i .u64), .mv p101 q18 tC, .bn p102 .sub q101 (.c (.int .u8 (.ofNat 48))) tC, .P p103 (.conv (.ii .u64) q102) (.i .u64), .bn p104 .add q100 q103 (.i .u64), .mv p2 q104 (.i .u64)] (.s (.oX [.mv p105 q16 tI, .bn p106 .add q105 (ci 1) tI, .mv p16 q106 tI])))) (.sO [.mv p107 q18 tC, .bn p108 .neq q107 (.c (.int .u8 (.ofNat 48))) .b] (.cond q108 (.s (.oX [.mv p5 (cb true) .b])) (.s .skip))))) c124_19)))) (.opq false (XL.pre [.mv p110 q10 (.i .u64), .bn p111 .eql q110 (.c (.int .u64 (.ofNat 16))) .b, .mv p112 q111 .b, .sp p112, .G p112 true p113 (.mov q18) tC, .o ⟨(some p114), (.call (.fn 102) [q113]), (some (p112, true)), []⟩ tC, .G p112 true p115 (.bin .leq (.c (.int .u8 (.ofNat 97))) q114) .b, .P p116 (.pick q112 q115 (cb false)) .b, .jn p112 [p0, p2, p3, p4, p5, p6, p7, p8, p9, p10, p11, p12, p13, p14, p15, p16, p17, p18, p116]] l124_20) c124_23))))))))) c124_18)) c124_17))
def v124_1 : List Pos := [p0, p2, p3, p4, p5, p6, p7, p8, p9, p10, p11, p12]
def c124_1 : XC := (.sO [.mv p13 (cb false) .b] (.sO [.mv p14 (cb false) .b] (.sO [.mv p15 (ci 0) tI] (.sO [.mv p16 (ci 0) tI] (.sO [.mv p17 (ci 0) tI] (.seq .skip (.sj v124_2 (.block 1 (.loop v124_16 c124_16b)) c124_2)))))))
def c124_25 : XC := (.cond q54 (.sO [.mv p10 (.c (.int .u64 (.ofNat 16))) (.i .u64)] (.sO [.mv p11 (ci 16) tI] (.sO [.mv p55 q7 tI, .bn p56 .add q55 (ci 2) tI, .mv p7 q56 tI] (.sO [.mv p12 (.c (.int .u8 (.ofNat 112))) tC] (.s (.oX [.mv p6 (cb true) .b])))))) (.s .skip))
def l124_24 : XL := (XL.of [])
def v124_0 : List Pos := [p0, p2, p3, p4, p5, p6, p7, p8, p9]
def c124_0 : XC := (.sO [.mv p10 (.c (.int .u64 (.ofNat 10))) (.i .u64)] (.sO [.mv p11 (ci 19) tI] (.sO [.mv p12 (.c (.int .u8 (.ofNat 101))) tC] (.sj v124_1 (.opq false (XL.pre [.mv p36 q7 tI, .bn p37 .add q36 (ci 2) tI, .mv p38 q0 .s, .P p39 (.lens q38) tI, .bn p40 .lss q37 q39 .b, .mv p41 q40 .b, .ge p41 (XL.of [.G p41 true p42 (.mov q0) .s, .G p41 true p43 (.mov q7) tI, .G p41 true p44 (.idxs q42 q43) tC, .G p41 true p45 (.bin .eql q44 (.c (.int .u8 (.ofNat 48)))) .b, .P p46 (.pick q41 q45 (cb false)) .b]) p46 .b, .mv p47 q46 .b, .sp p47, .G p47 true p48 (.mov q0) .s, .G p47 true p49 (.mov q7) tI, .G p47 true p50 (.bin .add q49 (ci 1)) tI, .G p47 true p51 (.idxs q48 q50) tC, .o ⟨(some p52), (.call (.fn 102) [q51]), (some (p47, true)), []⟩ tC, .G p47 true p53 (.bin .eql q52 (.c (.int .u8 (.ofNat 120)))) .b, .P p54 (.pick q47 q53 (cb false)) .b, .jn p47 [p0, p2, p3, p4, p5, p6, p7, p8, p9, p10, p11, p12, p54]] l124_24) c124_25) c124_1))))
def c124_e : XC := (.sO [.mv p2 (.c (.int .u64 (.ofNat 0))) (.i .u64), .mv p3 (ci 0) tI, .mv p4 (cb false) .b, .mv p5 (cb false) .b, .mv p6 (cb false) .b, .mv p7 (ci 0) tI, .mv p8 (cb false) .b] (.scope (.sO [.mv p9 (cb false) .b] (.seq (.seq (.oX [.mv p21 q7 tI, .mv p22 q0 .s, .P p23 (.lens q22) tI, .bn p24 .geq q21 q23 .b]) (.cond q24 .ret .skip)) (.sj v124_0 (.sO [.mv p25 q0 .s, .mv p26 q7 tI, .P p27 (.idxs q25 q26) tC] (.block 0 (.sO [.bn p29 .eql q27 (.c (.int .u8 (.ofNat 43))) .b, .mv p28 q29 .b] (.cond q28 (.s (.oX [.mv p30 q7 tI, .bn p31 .add q30 (ci 1) tI, .mv p7 q31 tI])) (.sO [.bn p33 .eql q27 (.c (.int .u8 (.ofNat 45))) .b, .mv p32 q33 .b] (.cond q32 (.sO [.mv p34 q7 tI, .bn p35 .add q34 (ci 1) tI, .mv p7 q35 tI] (.s (.oX [.mv p4 (cb true) .b]))) (.s .skip))))))) c124_0)))))
def x124 : XFn := ⟨[.s], false, [(.tmp p2), (.tmp p3), (.tmp p4), (.tmp p5), (.tmp p6), (.tmp p7), (.tmp p8)], c124_e⟩
def e124_7 (k t2 t3 t4 t5 t6 t7 h) := kN k [(p2, (AV.int .u64 t2)), (p3, (vI t3)), (p4, (vB t4)), (p5, (vB t5)), (p6, (vB t6)), (p7, (vI t7))] h
def S124_7 (D : CallD) (m : Nat) (t2 t3 : Int) (t4 t5 t6 : Bool) (t7 : Int) (h : HP) : Res2 :=
 some (.ret (.tup [(AV.int .u64 t2), (vI t3), (vB t4), (vB t5), (vB t6), (vI t7), (vB true)]) h, .no)
def e124_8 (k t2 t3 t4 t5 t6 t7 t8 t252 h) := kN k [(p2, (AV.int .u64 t2)), (p3, (vI t3)), (p4, (vB t4)), (p5, (vB t5)), (p6, (vB t6)), (p7, (vI t7)), (p8, (vB t8)), (p252, (vB t252))] h
def S124_8 (D : CallD) (m : Nat) (t2 t3 : Int) (t4 t5 t6 : Bool) (t7 : Int) (t8 t252 : Bool) (h : HP) : Res2 :=
 br t252 (
 some (.ret (.tup [(AV.int .u64 t2), (vI t3), (vB t4), (vB t5), (vB t6), (vI t7), (vB t8)]) h, .no)) (
 S124_7 D m t2 t3 t4 t5 t6 t7 h)
def e124_6 (k t0 t2 t3 t4 t5 t6 t7 t8 t9 h) := kN k [(p0, (vS t0)), (p2, (AV.int .u64 t2)), (p3, (vI t3)), (p4, (vB t4)), (p5, (vB t5)), (p6, (vB t6)), (p7, (vI t7)), (p8, (vB t8)), (p9, (vB t9))] h
def S124_6 (D : CallD) (m : Nat) (t0 : LN) (t2 t3 : Int) (t4 t5 t6 : Bool) (t7 : Int) (t8 t9 : Bool) (h : HP) : Res2 :=
 br t9 (
 slC (vS t0) none (some (vI t7)) fun vt249 => asS vt249 fun t249 =>
 cal D 103 [(vS t249)] h fun t250 h27 =>
 asB t250 fun t250a =>
 let t251 := !t250a
 S124_8 D m t2 t3 t4 t5 t6 t7 t8 t251 h27) (
 S124_8 D m t2 t3 t4 t5 t6 t7 t8 false h)
def e124_5 (k t0 t2 t3 t4 t5 t6 t7 t8 t9 t16 t17 h) := kN k [(p0, (vS t0)), (p2, (AV.int .u64 t2)), (p3, (vI t3)), (p4, (vB t4)), (p5, (vB t5)), (p6, (vB t6)), (p7, (vI t7)), (p8, (vB t8)), (p9, (vB t9)), (p16, (vI t16)), (p17, (vI t17))] h
def S124_5 (D : CallD) (m : Nat) (t0 : LN) (t2 t3 : Int) (t4 t5 t6 : Bool) (t7 : Int) (t8 t9 : Bool) (t16 t17 : Int) (h : HP) : Res2 :=
 let t241 := notQ (eqQ t2 (Int.ofNat 0))
 br t241 (
 let t244 := wrQ .i64 (t17 - t16)
 S124_6 D m t0 t2 t244 t4 t5 t6 t7 t8 t9 h) (
 S124_6 D m t0 t2 t3 t4 t5 t6 t7 t8 t9 h)
def e124_12 (k t0 t2 t3 t4 t5 t6 t7 t8 t9 t16 t17 t19 t20 h) := kN k [(p0, (vS t0)), (p2, (AV.int .u64 t2)), (p3, (vI t3)), (p4, (vB t4)), (p5, (vB t5)), (p6, (vB t6)), (p7, (vI t7)), (p8, (vB t8)), (p9, (vB t9)), (p16, (vI t16)), (p17, (vI t17)), (p19, (vI t19)), (p20, (vI t20))] h
def S124_12 (D : CallD) (m : Nat) (t0 : LN) (t2 t3 : Int) (t4 t5 t6 : Bool) (t7 : Int) (t8 t9 : Bool) (t16 t17 t19 t20 : Int) (h : HP) : Res2 :=
 let t236 := wrQ .i64 (t20 * t19)
 let t237 := wrQ .i64 (addQ t17 t236)
 S124_5 D m t0 t2 t3 t4 t5 t6 t7 t8 t9 t16 t237 h
def e124_14 (k t0 t2 t3 t4 t5 t6 t7 t8 t9 t16 t17 t19 t20 h) := kN k [(p0, (vS t0)), (p2, (AV.int .u64 t2)), (p3, (vI t3)), (p4, (vB t4)), (p5, (vB t5)), (p6, (vB t6)), (p7, (vI t7)), (p8, (vB t8)), (p9, (vB t9)), (p16, (vI t16)), (p17, (vI t17)), (p19, (vI t19)), (p20, (vI t20))] h
def S124_14 (D : CallD) (m : Nat) (g13 : LN → Int → Int → Bool → Bool → Bool → Int → Bool → Bool → Int → Int → Int → Int → HP → Res2) (t0 : LN) (t2 t3 : Int) (t4 t5 t6 : Bool) (t7 : Int) (t8 t9 : Bool) (t16 t17 t19 t20 : Int) (h : HP) : Res2 :=
 let t218 := wrQ .i64 (addQ t7 (Int.ofNat 1))
 g13 t0 t2 t3 t4 t5 t6 t218 t8 t9 t16 t17 t19 t20 h
def e124_13 (k t0 t2 t3 t4 t5 t6 t7 t8 t9 t16 t17 t19 t20 h) := kN k [(p0, (vS t0)), (p2, (AV.int .u64 t2)), (p3, (vI t3)), (p4, (vB t4)), (p5, (vB t5)), (p6, (vB t6)), (p7, (vI t7)), (p8, (vB t8)), (p9, (vB t9)), (p16, (vI t16)), (p17, (vI t17)), (p19, (vI t19)), (p20, (vI t20))] h
def S124_13b (D : CallD) (m : Nat) (g13 : LN → Int → Int → Bool → Bool → Bool → Int → Bool → Bool → Int → Int → Int → Int → HP → Res2) (t0 : LN) (t2 t3 : Int) (t4 t5 t6 : Bool) (t7 : Int) (t8 t9 : Bool) (t16 t17 t19 t20 : Int) (h : HP) : Res2 :=
 let t197 := Int.ofNat (lenL t0)
 let t198 := ltQ t7 t197
 obB (brV t198 (
 ixCV (vS t0) (vI t7) fun vt202 => asIV .u8 vt202 fun t202 =>
 let t203 := leQ (Int.ofNat 48) t202
 obBV (brV t203 (
 ixCV (vS t0) (vI t7) fun vt207 => asIV .u8 vt207 fun t207 =>
 let t208 := leQ t207 (Int.ofNat 57)
 some (vB t208)) (
 some (vB false))) fun t209 =>
 obBV (brV t209 (
 some (vB true)) (
 ixCV (vS t0) (vI t7) fun vt213 => asIV .u8 vt213 fun t213 =>
 let t214 := eqQ t213 (Int.ofNat 95)
 some (vB t214))) fun t215 =>
 some (vB t215)) (
 some (vB false))) fun t216 =>
 br t216 (
 ixC (vS t0) (vI t7) fun vt221 => asI .u8 vt221 fun t221 =>
 let t222 := eqQ t221 (Int.ofNat 95)
 br t222 (
 S124_14 D m g13 t0 t2 t3 t4 t5 t6 t7 t8 true t16 t17 t19 t20 h) (
 let t224 := ltQ t20 (Int.ofNat 10000)
 br t224 (
 let t226 := wrQ .i64 (t20 * (Int.ofNat 10))
 ixC (vS t0) (vI t7) fun vt229 => asI .u8 vt229 fun t229 =>
 let t230 := wrapF .i64 t229
 let t231 := wrQ .i64 (addQ t226 t230)
 let t232 := wrQ .i64 (t231 - (Int.ofNat 48))
 S124_14 D m g13 t0 t2 t3 t4 t5 t6 t7 t8 t9 t16 t17 t19 t232 h) (
 S124_14 D m g13 t0 t2 t3 t4 t5 t6 t7 t8 t9 t16 t17 t19 t20 h))) (
 S124_12 D m t0 t2 t3 t4 t5 t6 t7 t8 t9 t16 t17 t19 t20 h)
def S124_13 (D : CallD) (m : Nat) : LN → Int → Int → Bool → Bool → Bool → Int → Bool → Bool → Int → Int → Int → Int → HP → Res2 := nrec (fun _ _ _ _ _ _ _ _ _ _ _ _ _ _ => none) (fun _ g => S124_13b D m g) m
def e124_11 (k t0 t2 t3 t4 t5 t6 t7 t8 t9 t16 t17 t19 h) := kN k [(p0, (vS t0)), (p2, (AV.int .u64 t2)), (p3, (vI t3)), (p4, (vB t4)), (p5, (vB t5)), (p6, (vB t6)), (p7, (vI t7)), (p8, (vB t8)), (p9, (vB t9)), (p16, (vI t16)), (p17, (vI t17)), (p19, (vI t19))] h
def S124_11 (D : CallD) (m : Nat) (t0 : LN) (t2 t3 : Int) (t4 t5 t6 : Bool) (t7 : Int) (t8 t9 : Bool) (t16 t17 t19 : Int) (h : HP) : Res2 :=
 let t181 := Int.ofNat (lenL t0)
 let t182 := leQ t181 t7
 obB (brV t182 (
 some (vB true)) (
 ixCV (vS t0) (vI t7) fun vt186 => asIV .u8 vt186 fun t186 =>
 let t187 := ltQ t186 (Int.ofNat 48)
 some (vB t187))) fun t188 =>
 obB (brV t188 (
 some (vB true)) (
 ixCV (vS t0) (vI t7) fun vt192 => asIV .u8 vt192 fun t192 =>
 let t193 := ltQ (Int.ofNat 57) t192
 some (vB t193))) fun t194 =>
 br t194 (
 some (.ret (.tup [(AV.int .u64 t2), (vI t3), (vB t4), (vB t5), (vB t6), (vI t7), (vB t8)]) h, .no)) (
 S124_13 D m t0 t2 t3 t4 t5 t6 t7 t8 t9 t16 t17 t19 (Int.ofNat 0) h)
def e124_10 (k t0 t2 t3 t4 t5 t6 t7 t8 t9 t10 t16 t17 t161 h) := kN k [(p0, (vS t0)), (p2, (AV.int .u64 t2)), (p3, (vI t3)), (p4, (vB t4)), (p5, (vB t5)), (p6, (vB t6)), (p7, (vI t7)), (p8, (vB t8)), (p9, (vB t9)), (p10, (AV.int .u64 t10)), (p16, (vI t16)), (p17, (vI t17)), (p161, (vB t161))] h
def S124_10 (D : CallD) (m : Nat) (t0 : LN) (t2 t3 : Int) (t4 t5 t6 : Bool) (t7 : Int) (t8 t9 : Bool) (t10 t16 t17 : Int) (t161 : Bool) (h : HP) : Res2 :=
 br t161 (
 let t163 := wrQ .i64 (addQ t7 (Int.ofNat 1))
 let t166 := Int.ofNat (lenL t0)
 let t167 := leQ t166 t163
 br t167 (
 some (.ret (.tup [(AV.int .u64 t2), (vI t3), (vB t4), (vB t5), (vB t6), (vI t163), (vB t8)]) h, .no)) (
 ixC (vS t0) (vI t163) fun vt170 => asI .u8 vt170 fun t170 =>
 let t172 := eqQ t170 (Int.ofNat 43)
 br t172 (
 let t174 := wrQ .i64 (addQ t163 (Int.ofNat 1))
 S124_11 D m t0 t2 t3 t4 t5 t6 t174 t8 t9 t16 t17 (Int.ofNat 1) h) (
 let t176 := eqQ t170 (Int.ofNat 45)
 br t176 (
 let t178 := wrQ .i64 (addQ t163 (Int.ofNat 1))
 S124_11 D m t0 t2 t3 t4 t5 t6 t178 t8 t9 t16 t17 (Int.negSucc 0) h) (
 S124_11 D m t0 t2 t3 t4 t5 t6 t163 t8 t9 t16 t17 (Int.ofNat 1) h)))) (
 let t239 := eqQ t10 (Int.ofNat 16)
 br t239 (
 some (.ret (.tup [(AV.int .u64 t2), (vI t3), (vB t4), (vB t5), (vB t6), (vI t7), (vB t8)]) h, .no)) (
 S124_5 D m t0 t2 t3 t4 t5 t6 t7 t8 t9 t16 t17 h))
def e124_4 (k t0 t2 t3 t4 t5 t6 t7 t8 t9 t10 t12 t16 t17 h) := kN k [(p0, (vS t0)), (p2, (AV.int .u64 t2)), (p3, (vI t3)), (p4, (vB t4)), (p5, (vB t5)), (p6, (vB t6)), (p7, (vI t7)), (p8, (vB t8)), (p9, (vB t9)), (p10, (AV.int .u64 t10)), (p12, (vC t12)), (p16, (vI t16)), (p17, (vI t17))] h
def S124_4 (D : CallD) (m : Nat) (t0 : LN) (t2 t3 : Int) (t4 t5 t6 : Bool) (t7 : Int) (t8 t9 : Bool) (t10 t12 t16 t17 : Int) (h : HP) : Res2 :=
 let t152 := Int.ofNat (lenL t0)
 let t153 := ltQ t7 t152
 br t153 (
 ixC (vS t0) (vI t7) fun vt157 => asI .u8 vt157 fun t157 =>
 cal D 102 [(vC t157)] h fun t158 h28 =>
 asI .u8 t158 fun t158a =>
 let t160 := eqQ t158a t12
 S124_10 D m t0 t2 t3 t4 t5 t6 t7 t8 t9 t10 t16 t17 t160 h28) (
 S124_10 D m t0 t2 t3 t4 t5 t6 t7 t8 t9 t10 t16 t17 false h)
def e124_3 (k t0 t2 t3 t4 t5 t6 t7 t8 t9 t10 t12 t16 t17 h) := kN k [(p0, (vS t0)), (p2, (AV.int .u64 t2)), (p3, (vI t3)), (p4, (vB t4)), (p5, (vB t5)), (p6, (vB t6)), (p7, (vI t7)), (p8, (vB t8)), (p9, (vB t9)), (p10, (AV.int .u64 t10)), (p12, (vC t12)), (p16, (vI t16)), (p17, (vI t17))] h
def S124_3 (D : CallD) (m : Nat) (t0 : LN) (t2 t3 : Int) (t4 t5 t6 : Bool) (t7 : Int) (t8 t9 : Bool) (t10 t12 t16 t17 : Int) (h : HP) : Res2 :=
 let t145 := eqQ t10 (Int.ofNat 16)
 br t145 (
 let t147 := wrQ .i64 (t17 * (Int.ofNat 4))
 let t149 := wrQ .i64 (t16 * (Int.ofNat 4))
 S124_4 D m t0 t2 t3 t4 t5 t6 t7 t8 t9 t10 t12 t149 t147 h) (
 S124_4 D m t0 t2 t3 t4 t5 t6 t7 t8 t9 t10 t12 t16 t17 h)
def e124_2 (k t0 t2 t3 t4 t5 t6 t7 t8 t9 t10 t12 t13 t14 t15 t16 t17 h) := kN k [(p0, (vS t0)), (p2, (AV.int .u64 t2)), (p3, (vI t3)), (p4, (vB t4)), (p5, (vB t5)), (p6, (vB t6)), (p7, (vI t7)), (p8, (vB t8)), (p9, (vB t9)), (p10, (AV.int .u64 t10)), (p12, (vC t12)), (p13, (vB t13)), (p14, (vB t14)), (p15, (vI t15)), (p16, (vI t16)), (p17, (vI t17))] h
def S124_2 (D : CallD) (m : Nat) (t0 : LN) (t2 t3 : Int) (t4 t5 t6 : Bool) (t7 : Int) (t8 t9 : Bool) (t10 t12 : Int) (t13 t14 : Bool) (t15 t16 t17 : Int) (h : HP) : Res2 :=
 let t140 := !t14
 br t140 (
 some (.ret (.tup [(AV.int .u64 t2), (vI t3), (vB t4), (vB t5), (vB t6), (vI t7), (vB t8)]) h, .no)) (
 let t142 := !t13
 br t142 (
 S124_3 D m t0 t2 t3 t4 t5 t6 t7 t8 t9 t10 t12 t16 t15 h) (
 S124_3 D m t0 t2 t3 t4 t5 t6 t7 t8 t9 t10 t12 t16 t17 h))
def e124_17 (k t0 t2 t3 t4 t5 t6 t7 t8 t9 t10 t11 t12 t13 t14 t15 t16 t17 h) := kN k [(p0, (vS t0)), (p2, (AV.int .u64 t2)), (p3, (vI t3)), (p4, (vB t4)), (p5, (vB t5)), (p6, (vB t6)), (p7, (vI t7)), (p8, (vB t8)), (p9, (vB t9)), (p10, (AV.int .u64 t10)), (p11, (vI t11)), (p12, (vC t12)), (p13, (vB t13)), (p14, (vB t14)), (p15, (vI t15)), (p16, (vI t16)), (p17, (vI t17))] h
def S124_17 (D : CallD) (m : Nat) (g16 : LN → Int → Int → Bool → Bool → Bool → Int → Bool → Bool → Int → Int → Int → Bool → Bool → Int → Int → Int → HP → Res2) (t0 : LN) (t2 t3 : Int) (t4 t5 t6 : Bool) (t7 : Int) (t8 t9 : Bool) (t10 t11 t12 : Int) (t13 t14 : Bool) (t15 t16 t17 : Int) (h : HP) : Res2 :=
 let t62 := wrQ .i64 (addQ t7 (Int.ofNat 1))
 g16 t0 t2 t3 t4 t5 t6 t62 t8 t9 t10 t11 t12 t13 t14 t15 t16 t17 h
def e124_18 (k t0 t2 t3 t4 t5 t6 t7 t8 t9 t10 t12 t13 t14 t15 t16 t17 h) := kN k [(p0, (vS t0)), (p2, (AV.int .u64 t2)), (p3, (vI t3)), (p4, (vB t4)), (p5, (vB t5)), (p6, (vB t6)), (p7, (vI t7)), (p8, (vB t8)), (p9, (vB t9)), (p10, (AV.int .u64 t10)), (p12, (vC t12)), (p13, (vB t13)), (p14, (vB t14)), (p15, (vI t15)), (p16, (vI t16)), (p17, (vI t17))] h
def S124_18 (D : CallD) (m : Nat) (g16 : LN → Int → Int → Bool → Bool → Bool → Int → Bool → Bool → Int → Int → Int → Bool → Bool → Int → Int → Int → HP → Res2) (t0 : LN) (t2 t3 : Int) (t4 t5 t6 : Bool) (t7 : Int) (t8 t9 : Bool) (t10 t12 : Int) (t13 t14 : Bool) (t15 t16 t17 : Int) (h : HP) : Res2 :=
 S124_2 D m t0 t2 t3 t4 t5 t6 t7 t8 t9 t10 t12 t13 t14 t15 t16 t17 h
def e124_19 (k t0 t2 t3 t4 t5 t6 t7 t8 t9 t10 t11 t12 t13 t14 t15 t16 t17 h) := kN k [(p0, (vS t0)), (p2, (AV.int .u64 t2)), (p3, (vI t3)), (p4, (vB t4)), (p5, (vB t5)), (p6, (vB t6)), (p7, (vI t7)), (p8, (vB t8)), (p9, (vB t9)), (p10, (AV.int .u64 t10)), (p11, (vI t11)), (p12, (vC t12)), (p13, (vB t13)), (p14, (vB t14)), (p15, (vI t15)), (p16, (vI t16)), (p17, (vI t17))] h
def S124_19 (D : CallD) (m : Nat) (g16 : LN → Int → Int → Bool → Bool → Bool → Int → Bool → Bool → Int → Int → Int → Bool → Bool → Int → Int → Int → HP → Res2) (t0 : LN) (t2 t3 : Int) (t4 t5 t6 : Bool) (t7 : Int) (t8 t9 : Bool) (t10 t11 t12 : Int) (t13 t14 : Bool) (t15 t16 t17 : Int) (h : HP) : Res2 :=
 S124_17 D m g16 t0 t2 t3 t4 t5 t6 t7 t8 t9 t10 t11 t12 t13 t14 t15 t16 t17 h
def e124_22 (k t0 t2 t3 t4 t5 t6 t7 t8 t9 t10 t11 t12 t13 t14 t15 t16 t17 h) := kN k [(p0, (vS t0)), (p2, (AV.int .u64 t2)), (p3, (vI t3)), (p4, (vB t4)), (p5, (vB t5)), (p6, (vB t6)), (p7, (vI t7)), (p8, (vB t8)), (p9, (vB t9)), (p10, (AV.int .u64 t10)), (p11, (vI t11)), (p12, (vC t12)), (p13, (vB t13)), (p14, (vB t14)), (p15, (vI t15)), (p16, (vI t16)), (p17, (vI t17))] h
def S124_22 (D : CallD) (m : Nat) (g16 : LN → Int → Int → Bool → Bool → Bool → Int → Bool → Bool → Int → Int → Int → Bool → Bool → Int → Int → Int → HP → Res2) (t0 : LN) (t2 t3 : Int) (t4 t5 t6 : Bool) (t7 : Int) (t8 t9 : Bool) (t10 t11 t12 : Int) (t13 t14 : Bool) (t15 t16 t17 : Int) (h : HP) : Res2 :=
 S124_17 D m g16 t0 t2 t3 t4 t5 t6 t7 t8 t9 t10 t11 t12 t13 t14 t15 t16 t17 h
def e124_21 (k t0 t2 t3 t4 t5 t6 t7 t8 t9 t10 t11 t12 t13 t14 t15 t16 t17 t18 t121 h) := kN k [(p0, (vS t0)), (p2, (AV.int .u64 t2)), (p3, (vI t3)), (p4, (vB t4)), (p5, (vB t5)), (p6, (vB t6)), (p7, (vI t7)), (p8, (vB t8)), (p9, (vB t9)), (p10, (AV.int .u64 t10)), (p11, (vI t11)), (p12, (vC t12)), (p13, (vB t13)), (p14, (vB t14)), (p15, (vI t15)), (p16, (vI t16)), (p17, (vI t17)), (p18, (vC t18)), (p121, (vB t121))] h
def S124_21 (D : CallD) (m : Nat) (g16 : LN → Int → Int → Bool → Bool → Bool → Int → Bool → Bool → Int → Int → Int → Bool → Bool → Int → Int → Int → HP → Res2) (t0 : LN) (t2 t3 : Int) (t4 t5 t6 : Bool) (t7 : Int) (t8 t9 : Bool) (t10 t11 t12 : Int) (t13 t14 : Bool) (t15 t16 t17 t18 : Int) (t121 : Bool) (h : HP) : Res2 :=
 let t122 := ((true == t121) != false)
 br t122 (
 let t124 := wrQ .i64 (addQ t15 (Int.ofNat 1))
 let t127 := ltQ t16 t11
 br t127 (
 let t129 := wrQ .u64 (t2 * (Int.ofNat 16))
 cal D 102 [(vC t18)] h fun t132 h31 =>
 asI .u8 t132 fun t132a =>
 let t133 := wrQ .u8 (t132a - (Int.ofNat 97))
 let t134 := wrQ .u8 (addQ t133 (Int.ofNat 10))
 let t135 := wrapF .u64 t134
 let t136 := wrQ .u64 (addQ t129 t135)
 let t138 := wrQ .i64 (addQ t16 (Int.ofNat 1))
 S124_22 D m g16 t0 t136 t3 t4 t5 t6 t7 t8 t9 t10 t11 t12 t13 true t124 t138 t17 h31) (
 S124_22 D m g16 t0 t2 t3 t4 true t6 t7 t8 t9 t10 t11 t12 t13 true t124 t16 t17 h)) (
 S124_18 D m g16 t0 t2 t3 t4 t5 t6 t7 t8 t9 t10 t12 t13 t14 t15 t16 t17 h)
def e124_20 (k t0 t2 t3 t4 t5 t6 t7 t8 t9 t10 t11 t12 t13 t14 t15 t16 t17 t18 t116 h) := kN k [(p0, (vS t0)), (p2, (AV.int .u64 t2)), (p3, (vI t3)), (p4, (vB t4)), (p5, (vB t5)), (p6, (vB t6)), (p7, (vI t7)), (p8, (vB t8)), (p9, (vB t9)), (p10, (AV.int .u64 t10)), (p11, (vI t11)), (p12, (vC t12)), (p13, (vB t13)), (p14, (vB t14)), (p15, (vI t15)), (p16, (vI t16)), (p17, (vI t17)), (p18, (vC t18)), (p116, (vB t116))] h
def S124_20 (D : CallD) (m : Nat) (g16 : LN → Int → Int → Bool → Bool → Bool → Int → Bool → Bool → Int → Int → Int → Bool → Bool → Int → Int → Int → HP → Res2) (t0 : LN) (t2 t3 : Int) (t4 t5 t6 : Bool) (t7 : Int) (t8 t9 : Bool) (t10 t11 t12 : Int) (t13 t14 : Bool) (t15 t16 t17 t18 : Int) (t116 : Bool) (h : HP) : Res2 :=
 br t116 (
 cal D 102 [(vC t18)] h fun t119 h30 =>
 asI .u8 t119 fun t119a =>
 let t120 := leQ t119a (Int.ofNat 102)
 S124_21 D m g16 t0 t2 t3 t4 t5 t6 t7 t8 t9 t10 t11 t12 t13 t14 t15 t16 t17 t18 t120 h30) (
 S124_21 D m g16 t0 t2 t3 t4 t5 t6 t7 t8 t9 t10 t11 t12 t13 t14 t15 t16 t17 t18 false h)
def e124_16 (k t0 t2 t3 t4 t5 t6 t7 t8 t9 t10 t11 t12 t13 t14 t15 t16 t17 h) := kN k [(p0, (vS t0)), (p2, (AV.int .u64 t2)), (p3, (vI t3)), (p4, (vB t4)), (p5, (vB t5)), (p6, (vB t6)), (p7, (vI t7)), (p8, (vB t8)), (p9, (vB t9)), (p10, (AV.int .u64 t10)), (p11, (vI t11)), (p12, (vC t12)), (p13, (vB t13)), (p14, (vB t14)), (p15, (vI t15)), (p16, (vI t16)), (p17, (vI t17))] h
def S124_16b (D : CallD) (m : Nat) (g16 : LN → Int → Int → Bool → Bool → Bool → Int → Bool → Bool → Int → Int → Int → Bool → Bool → Int → Int → Int → HP → Res2) (t0 : LN) (t2 t3 : Int) (t4 t5 t6 : Bool) (t7 : Int) (t8 t9 : Bool) (t10 t11 t12 : Int) (t13 t14 : Bool) (t15 t16 t17 : Int) (h : HP) : Res2 :=
 let t59 := Int.ofNat (lenL t0)
 let t60 := ltQ t7 t59
 br t60 (
 ixC (vS t0) (vI t7) fun vt65 => asI .u8 vt65 fun t65 =>
 let t68 := eqQ t65 (Int.ofNat 95)
 let t69 := ((true == t68) != false)
 br t69 (
 S124_17 D m g16 t0 t2 t3 t4 t5 t6 t7 t8 true t10 t11 t12 t13 t14 t15 t16 t17 h) (
 let t72 := eqQ t65 (Int.ofNat 46)
 let t73 := ((true == t72) != false)
 br t73 (
 br t13 (
 S124_2 D m t0 t2 t3 t4 t5 t6 t7 t8 t9 t10 t12 t13 t14 t15 t16 t17 h) (
 S124_17 D m g16 t0 t2 t3 t4 t5 t6 t7 t8 t9 t10 t11 t12 true t14 t15 t16 t15 h)) (
 let t78 := leQ (Int.ofNat 48) t65
 obB (brV t78 (
 let t81 := leQ t65 (Int.ofNat 57)
 some (vB t81)) (
 some (vB false))) fun t82 =>
 let t83 := ((true == t82) != false)
 br t83 (
 let t85 := eqQ t65 (Int.ofNat 48)
 obB (brV t85 (
 let t88 := eqQ t15 (Int.ofNat 0)
 some (vB t88)) (
 some (vB false))) fun t89 =>
 br t89 (
 let t91 := wrQ .i64 (t17 - (Int.ofNat 1))
 S124_17 D m g16 t0 t2 t3 t4 t5 t6 t7 t8 t9 t10 t11 t12 t13 true t15 t16 t91 h) (
 let t93 := wrQ .i64 (addQ t15 (Int.ofNat 1))
 let t96 := ltQ t16 t11
 br t96 (
 let t99 := wrQ .u64 (t2 * t10)
 let t102 := wrQ .u8 (t65 - (Int.ofNat 48))
 let t103 := wrapF .u64 t102
 let t104 := wrQ .u64 (addQ t99 t103)
 let t106 := wrQ .i64 (addQ t16 (Int.ofNat 1))
 S124_19 D m g16 t0 t104 t3 t4 t5 t6 t7 t8 t9 t10 t11 t12 t13 true t93 t106 t17 h) (
 let t108 := notQ (eqQ t65 (Int.ofNat 48))
 br t108 (
 S124_19 D m g16 t0 t2 t3 t4 true t6 t7 t8 t9 t10 t11 t12 t13 true t93 t16 t17 h) (
 S124_19 D m g16 t0 t2 t3 t4 t5 t6 t7 t8 t9 t10 t11 t12 t13 true t93 t16 t17 h)))) (
 let t111 := eqQ t10 (Int.ofNat 16)
 br t111 (
 cal D 102 [(vC t65)] h fun t114 h29 =>
 asI .u8 t114 fun t114a =>
 let t115 := leQ (Int.ofNat 97) t114a
 S124_20 D m g16 t0 t2 t3 t4 t5 t6 t7 t8 t9 t10 t11 t12 t13 t14 t15 t16 t17 t65 t115 h29) (
 S124_20 D m g16 t0 t2 t3 t4 t5 t6 t7 t8 t9 t10 t11 t12 t13 t14 t15 t16 t17 t65 false h))))) (
 S124_2 D m t0 t2 t3 t4 t5 t6 t7 t8 t9 t10 t12 t13 t14 t15 t16 t17 h)
def S124_16 (D : CallD) (m : Nat) : LN → Int → Int → Bool → Bool → Bool → Int → Bool → Bool → Int → Int → Int → Bool → Bool → Int → Int → Int → HP → Res2 := nrec (fun _ _ _ _ _ _ _ _ _ _ _ _ _ _ _ _ _ _ => none) (fun _ g => S124_16b D m g) m
def e124_1 (k t0 t2 t3 t4 t5 t6 t7 t8 t9 t10 t11 t12 h) := kN k [(p0, (vS t0)), (p2, (AV.int .u64 t2)), (p3, (vI t3)), (p4, (vB t4)), (p5, (vB t5)), (p6, (vB t6)), (p7, (vI t7)), (p8, (vB t8)), (p9, (vB t9)), (p10, (AV.int .u64 t10)), (p11, (vI t11)), (p12, (vC t12))] h
def S124_1 (D : CallD) (m : Nat) (t0 : LN) (t2 t3 : Int) (t4 t5 t6 : Bool) (t7 : Int) (t8 t9 : Bool) (t10 t11 t12 : Int) (h : HP) : Res2 :=
 S124_16 D m t0 t2 t3 t4 t5 t6 t7 t8 t9 t10 t11 t12 false false (Int.ofNat 0) (Int.ofNat 0) (Int.ofNat 0) h
def e124_24 (k t0 t2 t3 t4 t5 t6 t7 t8 t9 t10 t11 t12 t54 h) := kN k [(p0, (vS t0)), (p2, (AV.int .u64 t2)), (p3, (vI t3)), (p4, (vB t4)), (p5, (vB t5)), (p6, (vB t6)), (p7, (vI t7)), (p8, (vB t8)), (p9, (vB t9)), (p10, (AV.int .u64 t10)), (p11, (vI t11)), (p12, (vC t12)), (p54, (vB t54))] h
def S124_24 (D : CallD) (m : Nat) (t0 : LN) (t2 t3 : Int) (t4 t5 t6 : Bool) (t7 : Int) (t8 t9 : Bool) (t10 t11 t12 : Int) (t54 : Bool) (h : HP) : Res2 :=
 br t54 (
 let t56 := wrQ .i64 (addQ t7 (Int.ofNat 2))
 S124_1 D m t0 t2 t3 t4 t5 true t56 t8 t9 (Int.ofNat 16) (Int.ofNat 16) (Int.ofNat 112) h) (
 S124_1 D m t0 t2 t3 t4 t5 t6 t7 t8 t9 t10 t11 t12 h)
def e124_0 (k t0 t2 t3 t4 t5 t6 t7 t8 t9 h) := kN k [(p0, (vS t0)), (p2, (AV.int .u64 t2)), (p3, (vI t3)), (p4, (vB t4)), (p5, (vB t5)), (p6, (vB t6)), (p7, (vI t7)), (p8, (vB t8)), (p9, (vB t9))] h
def S124_0 (D : CallD) (m : Nat) (t0 : LN) (t2 t3 : Int) (t4 t5 t6 : Bool) (t7 : Int) (t8 t9 : Bool) (h : HP) : Res2 :=
 let t37 := wrQ .i64 (addQ t7 (Int.ofNat 2))
 let t39 := Int.ofNat (lenL t0)
 let t40 := ltQ t37 t39
 obB (brV t40 (
 ixCV (vS t0) (vI t7) fun vt44 => asIV .u8 vt44 fun t44 =>
 let t45 := eqQ t44 (Int.ofNat 48)
 some (vB t45)) (
 some (vB false))) fun t46 =>
 br t46 (
 let t50 := wrQ .i64 (addQ t7 (Int.ofNat 1))
 ixC (vS t0) (vI t50) fun vt51 => asI .u8 vt51 fun t51 =>
 cal D 102 [(vC t51)] h fun t52 h32 =>
 asI .u8 t52 fun t52a =>
 let t53 := eqQ t52a (Int.ofNat 120)
 S124_24 D m t0 t2 t3 t4 t5 t6 t7 t8 t9 (Int.ofNat 10) (Int.ofNat 19) (Int.ofNat 101) t53 h32) (
 S124_24 D m t0 t2 t3 t4 t5 t6 t7 t8 t9 (Int.ofNat 10) (Int.ofNat 19) (Int.ofNat 101) false h)
def e124_26 (k t0 h) := kN k [(p0, (vS t0))] h
def S124_26 (D : CallD) (m : Nat) (t0 : LN) (h : HP) : Res2 :=
 let t23 := Int.ofNat (lenL t0)
 let t24 := leQ t23 (Int.ofNat 0)
 br t24 (
 some (.ret (.tup [(AV.int .u64 (Int.ofNat 0)), (vI (Int.ofNat 0)), (vB false), (vB false), (vB false), (vI (Int.ofNat 0)), (vB false)]) h, .no)) (
 ixC (vS t0) (vI (Int.ofNat 0)) fun vt27 => asI .u8 vt27 fun t27 =>
 let t29 := eqQ t27 (Int.ofNat 43)
 br t29 (
 let t31 := wrQ .i64 (addQ (Int.ofNat 0) (Int.ofNat 1))
 S124_0 D m t0 (Int.ofNat 0) (Int.ofNat 0) false false false t31 false false h) (
 let t33 := eqQ t27 (Int.ofNat 45)
 br t33 (
 let t35 := wrQ .i64 (addQ (Int.ofNat 0) (Int.ofNat 1))
 S124_0 D m t0 (Int.ofNat 0) (Int.ofNat 0) true false false t35 false false h) (
 S124_0 D m t0 (Int.ofNat 0) (Int.ofNat 0) false false false (Int.ofNat 0) false false h)))
def S124 : SFn := fun D m args h u => nou u <| popS args fun t0 args => endA args (S124_26 D m t0 h)
theorem T124_7 (hE : FX x124 D m E) : S124_7 D m = e124_7 (E c124_7 []) := by unfold S124_7; rw [hE c124_7]; kernel_rfl
theorem T124_8 (hE : FX x124 D m E) : S124_8 D m = e124_8 (E (.opq false l124_8 c124_9) [.sj v124_7 c124_7]) := by unfold S124_8; rw [T124_7 hE, hE (.opq false l124_8 c124_9)]; kernel_rfl
theorem T124_6 (hE : FX x124 D m E) : S124_6 D m = e124_6 (E c124_6 []) := by unfold S124_6; rw [T124_8 hE, hE c124_6]; kernel_rfl
theorem T124_5 (hE : FX x124 D m E) : S124_5 D m = e124_5 (E c124_5 []) := by unfold S124_5; rw [T124_6 hE, hE c124_5]; kernel_rfl
theorem T124_12 (hE : FX x124 D m E) : S124_12 D m = e124_12 (E c124_12 [.sj v124_5 c124_5]) := by unfold S124_12; rw [T124_5 hE, hE c124_12]; kernel_rfl
theorem T124_14 (hE : FX x124 D m E) (G13) : S124_14 D m (e124_13 G13) = e124_14 (E c124_14 [.lp v124_13 G13, .blk 5, .sj v124_12 c124_12, .sj v124_5 c124_5]) := by unfold S124_14; rw [hE c124_14]; kernel_rfl
theorem T124_13b (hE : FX x124 D m E) (G13) : S124_13b D m (e124_13 G13) = e124_13 (E c124_13b [.lp v124_13 G13, .blk 5, .sj v124_12 c124_12, .sj v124_5 c124_5]) := by unfold S124_13b; rw [T124_14 hE G13, T124_12 hE, hE c124_13b]; kernel_rfl
theorem T124_13 (hE : FX x124 D m E) : S124_13 D m = e124_13 (nrec (fun _ => none) (fun _ G13 st => E c124_13b [.lp v124_13 G13, .blk 5, .sj v124_12 c124_12, .sj v124_5 c124_5] st) m) :=
  nrec_emb e124_13 (fun _ _ _ _ _ _ _ _ _ _ _ _ _ _ => none) (fun g => S124_13b D m g) (fun G13 st => E c124_13b [.lp v124_13 G13, .blk 5, .sj v124_12 c124_12, .sj v124_5 c124_5] st) rfl (fun g => T124_13b hE g) m
theorem T124_11 (hE : FX x124 D m E) : S124_11 D m = e124_11 (E c124_11 [.sj v124_5 c124_5]) := by unfold S124_11; rw [T124_13 hE, hE c124_11]; kernel_rfl
theorem T124_10 (hE : FX x124 D m E) : S124_10 D m = e124_10 (E (.opq false l124_10 c124_15) [.sj v124_5 c124_5]) := by unfold S124_10; rw [T124_11 hE, T124_5 hE, hE (.opq false l124_10 c124_15)]; kernel_rfl
theorem T124_4 (hE : FX x124 D m E) : S124_4 D m = e124_4 (E c124_4 []) := by unfold S124_4; rw [T124_10 hE, hE c124_4]; kernel_rfl
theorem T124_3 (hE : FX x124 D m E) : S124_3 D m = e124_3 (E c124_3 []) := by unfold S124_3; rw [T124_4 hE, hE c124_3]; kernel_rfl
theorem T124_2 (hE : FX x124 D m E) : S124_2 D m = e124_2 (E c124_2 []) := by unfold S124_2; rw [T124_3 hE, hE c124_2]; kernel_rfl
theorem T124_17 (hE : FX x124 D m E) (G16) : S124_17 D m (e124_16 G16) = e124_17 (E c124_17 [.lp v124_16 G16, .blk 1, .sj v124_2 c124_2]) := by unfold S124_17; rw [hE c124_17]; kernel_rfl
theorem T124_18 (hE : FX x124 D m E) (G16) : S124_18 D m (e124_16 G16) = e124_18 (E c124_18 [.blk 2, .sj v124_17 c124_17, .lp v124_16 G16, .blk 1, .sj v124_2 c124_2]) := by unfold S124_18; rw [T124_2 hE, hE c124_18]; kernel_rfl
theorem T124_19 (hE : FX x124 D m E) (G16) : S124_19 D m (e124_16 G16) = e124_19 (E c124_19 [.blk 3, .sj v124_18 c124_18, .blk 2, .sj v124_17 c124_17, .lp v124_16 G16, .blk 1, .sj v124_2 c124_2]) := by unfold S124_19; rw [T124_17 hE G16, hE c124_19]; kernel_rfl
theorem T124_22 (hE : FX x124 D m E) (G16) : S124_22 D m (e124_16 G16) = e124_22 (E c124_22 [.blk 3, .sj v124_18 c124_18, .blk 2, .sj v124_17 c124_17, .lp v124_16 G16, .blk 1, .sj v124_2 c124_2]) := by unfold S124_22; rw [T124_17 hE G16, hE c124_22]; kernel_rfl
theorem T124_21 (hE : FX x124 D m E) (G16) : S124_21 D m (e124_16 G16) = e124_21 (E (.opq false l124_21 c124_23) [.blk 3, .sj v124_18 c124_18, .blk 2, .sj v124_17 c124_17, .lp v124_16 G16, .blk 1, .sj v124_2 c124_2]) := by unfold S124_21; rw [T124_22 hE G16, T124_18 hE G16, hE (.opq false l124_21 c124_23)]; kernel_rfl
theorem T124_20 (hE : FX x124 D m E) (G16) : S124_20 D m (e124_16 G16) = e124_20 (E (.opq false l124_20 c124_23) [.blk 3, .sj v124_18 c124_18, .blk 2, .sj v124_17 c124_17, .lp v124_16 G16, .blk 1, .sj v124_2 c124_2]) := by unfold S124_20; rw [T124_21 hE G16, hE (.opq false l124_20 c124_23)]; kernel_rfl
theorem T124_16b (hE : FX x124 D m E) (G16) : S124_16b D m (e124_16 G16) = e124_16 (E c124_16b [.lp v124_16 G16, .blk 1, .sj v124_2 c124_2]) := by unfold S124_16b; rw [T124_17 hE G16, T124_2 hE, T124_19 hE G16, T124_20 hE G16, hE c124_16b]; kernel_rfl
theorem T124_16 (hE : FX x124 D m E) : S124_16 D m = e124_16 (nrec (fun _ => none) (fun _ G16 st => E c124_16b [.lp v124_16 G16, .blk 1, .sj v124_2 c124_2] st) m) :=
  nrec_emb e124_16 (fun _ _ _ _ _ _ _ _ _ _ _ _ _ _ _ _ _ _ => none) (fun g => S124_16b D m g) (fun G16 st => E c124_16b [.lp v124_16 G16, .blk 1, .sj v124_2 c124_2] st) rfl (fun g => T124_16b hE g) m
theorem T124_1 (hE : FX x124 D m E) : S124_1 D m = e124_1 (E c124_1 []) := by unfold S124_1; rw [T124_16 hE, hE c124_1]; kernel_rfl
theorem T124_24 (hE : FX x124 D m E) : S124_24 D m = e124_24 (E (.opq false l124_24 c124_25) [.sj v124_1 c124_1]) := by unfold S124_24; rw [T124_1 hE, hE (.opq false l124_24 c124_25)]; kernel_rfl
theorem T124_0 (hE : FX x124 D m E) : S124_0 D m = e124_0 (E c124_0 []) := by unfold S124_0; rw [T124_24 hE, hE c124_0]; kernel_rfl
theorem T124_26 (hE : FX x124 D m E) : S124_26 D m = e124_26 (E c124_e []) := by unfold S124_26; rw [T124_0 hE, hE c124_e]; kernel_rfl
theorem X124 : XTie S124 x124 := X_of fun D m E hE args h u => by unfold S124; rw [T124_26 hE]; kernel_rfl
/- 132 -/
def c132_e : XC := (.sO [.mv p2 (.c (.int .u64 (.ofNat 0))) (.i .u64)] (.seq (.seq (.oX [.mv p3 q0 .b]) (.cond q3 (.seq (.oX [.mv p2 (.c (.int .u64 (.ofNat 1))) (.i .u64)]) .ret) .skip)) (.sO [.mv p2 (.c (.int .u64 (.ofNat 0))) (.i .u64)] (.s .ret))))
def x132 : XFn := ⟨[.b], false, [(.tmp p2)], c132_e⟩
def e132_0 (k t0 h) := kN k [(p0, (vB t0))] h
def S132_0 (D : CallD) (m : Nat) (t0 : Bool) (h : HP) : Res2 :=
 br t0 (
 some (.ret (AV.int .u64 (Int.ofNat 1)) h, .no)) (
 some (.ret (AV.int .u64 (Int.ofNat 0)) h, .no))
def S132 : SFn := fun D m args h u => nou u <| popB args fun t0 args => endA args (S132_0 D m t0 h)
theorem T132_0 (hE : FX x132 D m E) : S132_0 D m = e132_0 (E c132_e []) := by unfold S132_0; rw [hE c132_e]; kernel_rfl
theorem X132 : XTie S132 x132 := X_of fun D m E hE args h u => by unfold S132; rw [T132_0 hE]; kernel_rfl
/- 134 -/
def v134_1 : List Pos := [p6, p7]
def c134_1 : XC := (.s .ret)
def v134_2 : List Pos := [p1, p6, p7]
def c134_2 : XC := (.seq (.seq (.oX [.mv p38 q6 .v, .bn p39 .gtr q38 (.c (.flt .f64 4831355200913801216)) .b, .mv p40 q39 .b, .ge p40 (XL.of [.G p40 false p41 (.mov q6) .v, .G p40 false p42 (.bin .lss q41 (.c (.flt .f64 14054727237768577024))) .b, .P p43 (.pick q40 (cb true) q42) .b]) p43 .b]) (.cond q43 .ret .skip)) (.sO [.mv p44 q6 .v, .ld p45 (.c (.ptr p14 0)) .v, .mv p46 q1 tI, .P p47 (.iaddr (.sl 1) q45 q46) .v, .ld p48 q47 .v, .bn p49 .mul q44 q48 .v, .mv p6 q49 .v, .mv p7 (cb true) .b] (.s .ret)))
def v134_0 : List Pos := [p1, p6, p7]
def c134_0 : XC := (.sj v134_1 (.block 0 (.sO [.mv p19 q1 tI, .bn p20 .eql q19 (ci 0) .b, .mv p18 q20 .b] (.cond q18 (.sO [.mv p21 q6 .v, .mv p6 q21 .v, .mv p7 (cb true) .b] (.s .ret)) (.sO [.mv p23 q1 tI, .bn p24 .gtr q23 (ci 0) .b, .mv p25 q24 .b, .ge p25 (XL.of [.G p25 true p26 (.mov q1) tI, .G p25 true p27 (.bin .leq q26 (ci 37)) .b, .P p28 (.pick q25 q27 (cb false)) .b]) p28 .b, .mv p22 q28 .b] (.cond q22 (.sj v134_2 (.sO [.mv p29 q1 tI, .bn p30 .gtr q29 (ci 22) .b] (.cond q30 (.sO [.mv p31 q6 .v, .ld p32 (.c (.ptr p14 0)) .v, .mv p33 q1 tI, .bn p34 .sub q33 (ci 22) tI, .P p35 (.iaddr (.sl 1) q32 q34) .v, .ld p36 q35 .v, .bn p37 .mul q31 q36 .v, .mv p6 q37 .v] (.s (.oX [.mv p1 (ci 22) tI]))) (.s .skip))) c134_2) (.sO [.mv p51 q1 tI, .bn p52 .lss q51 (ci 0) .b, .mv p53 q52 .b, .ge p53 (XL.of [.G p53 true p54 (.mov q1) tI, .G p53 true p55 (.bin .geq q54 (.c (.int .i64 (.negSucc 21)))) .b, .P p56 (.pick q53 q55 (cb false)) .b]) p56 .b, .mv p50 q56 .b] (.cond q50 (.sO [.mv p57 q6 .v, .ld p58 (.c (.ptr p14 0)) .v, .mv p59 q1 tI, .P p60 (.un .neg q59) tI, .P p61 (.iaddr (.sl 1) q58 q60) .v, .ld p62 q61 .v, .bn p63 .quo q57 q62 .v, .mv p6 q63 .v, .mv p7 (cb true) .b] (.s .ret)) (.s .skip)))))))) c134_1)
def c134_e : XC := (.sO [.mv p6 (.c (.flt .f64 0)) .v, .mv p7 (cb false) .b] (.seq (.seq (.oX [.mv p8 q0 (.i .u64), .fa p9 0 (.c (.ptr p7 0)), .ld p10 q9 (.i .u64), .bn p11 .shr q8 q10 (.i .u64), .bn p12 .neq q11 (.c (.int .u64 (.ofNat 0))) .b]) (.cond q12 .ret .skip)) (.sO [.mv p13 q0 (.i .u64), .P p14 (.conv (.jf .f64) q13) .v, .mv p6 q14 .v] (.sj v134_0 (.sO [.mv p15 q2 .b] (.cond q15 (.s (.oX [.mv p16 q6 .v, .P p17 (.un .neg q16) .v, .mv p6 q17 .v])) (.s .skip))) c134_0))))
def x134 : XFn := ⟨[(.i .u64), tI, .b], false, [(.tmp p6), (.tmp p7)], c134_e⟩
def e134_1 (k t6 t7 h) := kN k [(p6, t6), (p7, (vB t7))] h
def S134_1 (D : CallD) (m : Nat) (t6 : AV) (t7 : Bool) (h : HP) : Res2 :=
 some (.ret (.tup [t6, (vB t7)]) h, .no)
def e134_2 (k t1 t6 t7 h) := kN k [(p1, (vI t1)), (p6, t6), (p7, (vB t7))] h
def S134_2 (D : CallD) (m : Nat) (t1 : Int) (t6 : AV) (t7 : Bool) (h : HP) : Res2 :=
 binC .gtr t6 ((.flt .f64 4831355200913801216) : AV) fun vt39 => asB vt39 fun t39 =>
 obB (brV t39 (
 some (vB true)) (
 binCV .lss t6 ((.flt .f64 14054727237768577024) : AV) fun vt42 => asBV vt42 fun t42 =>
 some (vB t42))) fun t43 =>
 br t43 (
 some (.ret (.tup [t6, (vB t7)]) h, .no)) (
 cellC ((.ptr p14 0) : AV) h fun t45 =>
 iasC 1 t45 (vI t1) fun t47 =>
 cellC t47 h fun t48 =>
 binC .mul t6 t48 fun t49 =>
 some (.ret (.tup [t49, (vB true)]) h, .no))
def e134_0 (k t1 t6 t7 h) := kN k [(p1, (vI t1)), (p6, t6), (p7, (vB t7))] h
def S134_0 (D : CallD) (m : Nat) (t1 : Int) (t6 : AV) (t7 : Bool) (h : HP) : Res2 :=
 let t20 := eqQ t1 (Int.ofNat 0)
 br t20 (
 some (.ret (.tup [t6, (vB true)]) h, .no)) (
 let t24 := ltQ (Int.ofNat 0) t1
 obB (brV t24 (
 let t27 := leQ t1 (Int.ofNat 37)
 some (vB t27)) (
 some (vB false))) fun t28 =>
 br t28 (
 let t30 := ltQ (Int.ofNat 22) t1
 br t30 (
 cellC ((.ptr p14 0) : AV) h fun t32 =>
 let t34 := wrQ .i64 (t1 - (Int.ofNat 22))
 iasC 1 t32 (vI t34) fun t35 =>
 cellC t35 h fun t36 =>
 binC .mul t6 t36 fun t37 =>
 S134_2 D m (Int.ofNat 22) t37 t7 h) (
 S134_2 D m t1 t6 t7 h)) (
 let t52 := ltQ t1 (Int.ofNat 0)
 obB (brV t52 (
 let t55 := leQ (Int.negSucc 21) t1
 some (vB t55)) (
 some (vB false))) fun t56 =>
 br t56 (
 cellC ((.ptr p14 0) : AV) h fun t58 =>
 let t60 := IntKind.wrap .i64 (0 - t1)
 iasC 1 t58 (vI t60) fun t61 =>
 cellC t61 h fun t62 =>
 binC .quo t6 t62 fun t63 =>
 some (.ret (.tup [t63, (vB true)]) h, .no)) (
 S134_1 D m t6 t7 h)))
def e134_3 (k t0 t1 t2 h) := kN k [(p0, (AV.int .u64 t0)), (p1, (vI t1)), (p2, (vB t2))] h
def S134_3 (D : CallD) (m : Nat) (t0 t1 : Int) (t2 : Bool) (h : HP) : Res2 :=
 faC 0 ((.ptr p7 0) : AV) fun t9 =>
 cellC t9 h fun vt10 => asI .u64 vt10 fun t10 =>
 obI .u64 (shiftF .shr .u64 t0 t10) fun t11 =>
 let t12 := notQ (eqQ t11 (Int.ofNat 0))
 br t12 (
 some (.ret (.tup [((.flt .f64 0) : AV), (vB false)]) h, .no)) (
 let t14 := AV.flt .f64 (FloatKind.nearest .f64 t0)
 br t2 (
 obQ (evP (.un .neg (.c t14)) .leaf) fun t17 =>
 S134_0 D m t1 t17 false h) (
 S134_0 D m t1 t14 false h))
def S134 : SFn := fun D m args h u => nou u <| popI .u64 args fun t0 args => popI .i64 args fun t1 args => popB args fun t2 args => endA args (S134_3 D m t0 t1 t2 h)
theorem T134_1 (hE : FX x134 D m E) : S134_1 D m = e134_1 (E c134_1 []) := by unfold S134_1; rw [hE c134_1]; kernel_rfl
theorem T134_2 (hE : FX x134 D m E) : S134_2 D m = e134_2 (E c134_2 [.blk 0, .sj v134_1 c134_1]) := by unfold S134_2; rw [hE c134_2]; kernel_rfl
theorem T134_0 (hE : FX x134 D m E) : S134_0 D m = e134_0 (E c134_0 []) := by unfold S134_0; rw [T134_2 hE, T134_1 hE, hE c134_0]; kernel_rfl
theorem T134_3 (hE : FX x134 D m E) : S134_3 D m = e134_3 (E c134_e []) := by unfold S134_3; rw [T134_0 hE, hE c134_e]; kernel_rfl
theorem X134 : XTie S134 x134 := X_of fun D m E hE args h u => by unfold S134; rw [T134_3 hE]; kernel_rfl
end
end Go.Proofs.YtbfdhoggchedjaaGreatDoor.Sx
