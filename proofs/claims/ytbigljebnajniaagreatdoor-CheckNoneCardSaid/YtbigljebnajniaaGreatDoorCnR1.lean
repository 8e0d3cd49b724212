/- PRINTED BY Gen2.lean (own): functions as plain texts, part 1. -/
import Derived.Test.YtbigljebnajniaaGreatDoorCnCtx
namespace YtbigljebnajniaaGreatDoorCnM
open Go Am
set_option maxRecDepth 100000
noncomputable def r28 : K.KRun → List AV → H → K.KR := fun run args h => K.uncons args fun t0 l1 => K.unnil l1 (
K.loopV (nat_lit 1000000) (fun s5 l2 m3 h4 => K.uncons l2 fun t6 l7 => K.uncons l7 fun t8 l9 => K.unnil l9 (
K.nilK t6 fun t10 =>
K.fldK 1 t10 fun t11 =>
K.fldK 1 t11 fun t12 =>
K.ldK ctx 3 t12 h4 fun t13 =>
K.ltK (K.binV ctx .lss 3 false t8 t13) t8 t13 fun t14 =>
K.iteV t14 (
K.letK (fun (l15 : List AV) (m16 : List Nat) (h17 : H) => K.uncons l15 fun t19 l20 => K.uncons l20 fun t21 l22 => K.unnil l22 (
K.addK (K.binV ctx .add 3 true t21 (.int .i64 (.ofNat 1))) t21 (.int .i64 (.ofNat 1)) fun t23 =>
s5 [t19, t23] m16 h17)) fun j18 =>
K.nilK t6 fun t24 =>
K.fldK 1 t24 fun t25 =>
K.ldsK ctx 25 3 t25 h4 fun t26 =>
K.callFK run 48 [t26, t8] h4 fun t27 h28 =>
K.nilK t6 fun t29 =>
K.fldK 4 t29 fun t30 =>
K.ldK ctx 51 t30 h28 fun t31 =>
K.callFK run 42 [t31, t8] h28 fun t32 h33 =>
K.nilK t6 fun t34 =>
K.fldK 0 t34 fun t35 =>
K.ldK ctx 50 t35 h33 fun t36 =>
K.callFK run 49 [t36, t27] h33 fun t37 h38 =>
K.neK (K.binV ctx .neq 37 true t37 (.int .u64 (.ofNat 0))) t37 (.int .u64 (.ofNat 0)) fun t39 =>
K.eqK (K.binV ctx .eql 4 false t32 t39) t32 t39 fun t40 =>
K.letK (fun (t41 : AV) (h42 : H) => K.letK (fun (t44 : AV) (h45 : H) => K.letK (fun (t47 : AV) (h48 : H) => K.letK (fun (t50 : AV) (h51 : H) => K.letK (fun (t53 : AV) (h54 : H) => K.letK (fun (t56 : AV) (h57 : H) => K.letK (fun (t59 : AV) (h60 : H) => K.letK (fun (t62 : AV) (h63 : H) => K.letK (fun (t65 : AV) (h66 : H) => K.letK (fun (t68 : AV) (h69 : H) => K.pickK t40 t68 (.bool false) fun t71 =>
K.callFK run 36 [t71, (.int .i64 (.ofNat 5)), t8, (.int .i64 (.ofNat 0))] h69 fun t72 h73 =>
K.loopV (nat_lit 1000000) (fun s77 l74 m75 h76 => K.uncons l74 fun t78 l79 => K.uncons l79 fun t80 l81 => K.uncons l81 fun t82 l83 => K.uncons l83 fun t84 l85 => K.uncons l85 fun t86 l87 => K.unnil l87 (
K.ltK (K.binV ctx .lss 3 true t86 (.int .i64 (.ofNat 10))) t86 (.int .i64 (.ofNat 10)) fun t88 =>
K.iteV t88 (
K.letK (fun (t89 : AV) (h90 : H) => K.letK (fun (t92 : AV) (h93 : H) => K.letK (fun (t95 : AV) (h96 : H) => K.letK (fun (t98 : AV) (h99 : H) => K.letK (fun (t101 : AV) (h102 : H) => K.letK (fun (t104 : AV) (h105 : H) => K.letK (fun (t107 : AV) (h108 : H) => K.letK (fun (t110 : AV) (h111 : H) => K.letK (fun (t113 : AV) (h114 : H) => K.pickK t84 (.bool true) t113 fun t116 =>
K.callFK run 36 [t116, (.int .i64 (.ofNat 5)), t80, (.int .i64 (.ofNat 0))] h114 fun t117 h118 =>
K.addK (K.binV ctx .add 3 true t86 (.int .i64 (.ofNat 1))) t86 (.int .i64 (.ofNat 1)) fun t119 =>
s77 [t78, t80, t82, t84, t119] m75 h118) fun j115 =>
K.guK false t84 (K.eqK (K.binV ctx .eql 37 true t110 (.int .u64 (.ofNat 0))) t110 (.int .u64 (.ofNat 0)) fun t120 =>
j115 t120 h111) (j115 (.tup []) h111)) fun j112 =>
K.guK false t84 (K.callFK run 49 [t98, t107] h108 fun t121 h122 =>
j112 t121 h122) (j112 (.tup []) h108)) fun j109 =>
K.guK false t84 (K.addK (K.binV ctx .add 3 false t101 t104) t101 t104 fun t123 =>
j109 t123 h105) (j109 (.tup []) h105)) fun j106 =>
K.guK false t84 (j106 t86 h102) (j106 (.tup []) h102)) fun j103 =>
K.guK false t84 (j103 t82 h99) (j103 (.tup []) h99)) fun j100 =>
K.guK false t84 (K.ldK ctx 50 t95 h96 fun t124 =>
j100 t124 h96) (j100 (.tup []) h96)) fun j97 =>
K.guK false t84 (K.fldK 0 t92 fun t125 =>
j97 t125 h93) (j97 (.tup []) h93)) fun j94 =>
K.guK false t84 (K.nilK t89 fun t126 =>
j94 t126 h90) (j94 (.tup []) h90)) fun j91 =>
K.guK false t84 (j91 t78 h76) (j91 (.tup []) h76)) (
j18 [t78, t80] m75 h76))) [t6, t8, t27, t32, (.int .i64 (.ofNat 0))] m3 h73) fun j70 =>
K.guK true t40 (K.pickK t47 (.bool true) t65 fun t127 =>
j70 t127 h66) (j70 (.tup []) h66)) fun j67 =>
K.guK false t47 (K.ldK ctx 4 t62 h63 fun t128 =>
j67 t128 h63) (j67 (.tup []) h63)) fun j64 =>
K.guK false t47 (K.idxAK 64 1 t59 t53 fun t129 =>
j64 t129 h60) (j64 (.tup []) h60)) fun j61 =>
K.guK false t47 (K.fldK 646 t56 fun t130 =>
j61 t130 h57) (j61 (.tup []) h57)) fun j58 =>
K.guK false t47 (K.nilK t50 fun t131 =>
j58 t131 h54) (j58 (.tup []) h54)) fun j55 =>
K.guK false t47 (j55 t8 h51) (j55 (.tup []) h51)) fun j52 =>
K.guK false t47 (j52 t6 h48) (j52 (.tup []) h48)) fun j49 =>
K.guK true t40 (j49 t44 h45) (j49 (.tup []) h45)) fun j46 =>
K.guK true t40 (K.notK t41 fun t132 =>
j46 t132 h42) (j46 (.tup []) h42)) fun j43 =>
K.guK true t40 (j43 t32 h38) (j43 (.tup []) h38)) (
K.unmarkK m3 h4 fun h133 => .ok (.tup []) h133))) [t0, (.int .i64 (.ofNat 1))] [] h)
noncomputable def r29 : K.KRun → List AV → H → K.KR := fun run args h => K.uncons args fun t0 l1 => K.unnil l1 (
K.ldK ctx 43 t0 h fun t2 =>
K.callFK run 30 [t2, (.int .i64 (.ofNat 1))] h fun t3 h4 =>
K.unmarkK [] h4 fun h5 => .ok (.tup []) h5)
noncomputable def r30 : K.KRun → List AV → H → K.KR := fun run args h => K.uncons args fun t0 l1 => K.uncons l1 fun t2 l3 => K.unnil l3 (
K.nilK t0 fun t4 =>
K.fldK 0 t4 fun t5 =>
K.ldK ctx 50 t5 h fun t6 =>
K.nilK t0 fun t7 =>
K.fldK 1 t7 fun t8 =>
K.ldsK ctx 25 3 t8 h fun t9 =>
K.callFK run 50 [t6, t9, t2] h fun t10 h11 =>
K.extK t10 0 fun t12 =>
K.extK t10 1 fun t13 =>
K.eqK (K.binV ctx .eql 71 true t13 (.int .i64 (.ofNat 0))) t13 (.int .i64 (.ofNat 0)) fun t14 =>
K.callFK run 36 [t14, (.int .i64 (.ofNat 6)), t2, (.int .i64 (.ofNat 0))] h11 fun t15 h16 =>
K.slowK ctx run (K.opAt Go.Proofs.Tryz.f30 2 0) [] [] h16 fun t17 h18 =>
K.letK (fun (l19 : List AV) (m20 : List Nat) (h21 : H) => K.uncons l19 fun t23 l24 => K.uncons l24 fun t25 l26 => K.unnil l26 (
K.lenVK t25 fun t27 =>
K.loopV (nat_lit 1000000) (fun s31 l28 m29 h30 => K.uncons l28 fun t32 l33 => K.uncons l33 fun t34 l35 => K.uncons l35 fun t36 l37 => K.uncons l37 fun t38 l39 => K.unnil l39 (
K.ltK (K.binV ctx .lss 3 false t38 t36) t38 t36 fun t40 =>
K.iteV t40 (
K.letK (fun (l41 : List AV) (m42 : List Nat) (h43 : H) => K.uncons l41 fun t45 l46 => K.uncons l46 fun t47 l48 => K.uncons l48 fun t49 l50 => K.uncons l50 fun t51 l52 => K.unnil l52 (
K.addK (K.binV ctx .add 3 true t51 (.int .i64 (.ofNat 1))) t51 (.int .i64 (.ofNat 1)) fun t53 =>
s31 [t45, t47, t49, t53] m42 h43)) fun j44 =>
K.idxSK 2 t34 t38 fun t54 =>
K.ldsK ctx 98 2 t54 h30 fun t55 =>
K.allocK (K.zN ctx 98) (K.zT ctx 98) h30 fun t56 h57 =>
K.stsK 2 t56 t55 h57 fun h58 =>
K.fldK 1 t56 fun t59 =>
K.ldK ctx 3 t59 h58 fun t60 =>
K.callFK run 43 [t32, t60, (.int .u64 (.ofNat 2))] h58 fun t61 h62 =>
K.iteV t61 (
K.fldK 1 t56 fun t63 =>
K.ldK ctx 3 t63 h62 fun t64 =>
K.callFK run 30 [t32, t64] h62 fun t65 h66 =>
j44 [t32, t34, t36, t38] m29 h66) (
j44 [t32, t34, t36, t38] m29 h62)) (
K.unmarkK m29 h30 fun h67 => .ok (.tup []) h67))) [t23, t25, t27, (.int .i64 (.ofNat 0))] m20 h21)) fun j22 =>
K.lenVK t12 fun t68 =>
K.loopV (nat_lit 1000000) (fun s72 l69 m70 h71 => K.uncons l69 fun t73 l74 => K.uncons l74 fun t75 l76 => K.uncons l76 fun t77 l78 => K.uncons l78 fun t79 l80 => K.uncons l80 fun t81 l82 => K.uncons l82 fun t83 l84 => K.uncons l84 fun t85 l86 => K.unnil l86 (
K.ltK (K.binV ctx .lss 3 false t85 t83) t85 t83 fun t87 =>
K.iteV t87 (
K.idxSK 2 t81 t85 fun t88 =>
K.ldsK ctx 98 2 t88 h71 fun t89 =>
K.allocK (K.zN ctx 98) (K.zT ctx 98) h71 fun t90 h91 =>
K.stsK 2 t90 t89 h91 fun h92 =>
K.fldK 0 t90 fun t93 =>
K.ldK ctx 9 t93 h92 fun t94 =>
K.slowK ctx run (K.opAt Go.Proofs.Tryz.f30 6 3) [35, 37] [t79, t94] h92 fun t95 h96 =>
K.notK t95 fun t97 =>
K.fldK 1 t90 fun t98 =>
K.ldK ctx 3 t98 h96 fun t99 =>
K.callFK run 36 [t97, (.int .i64 (.ofNat 6)), t75, t99] h96 fun t100 h101 =>
K.fldK 0 t90 fun t102 =>
K.ldK ctx 9 t102 h101 fun t103 =>
K.slowK ctx run (K.opAt Go.Proofs.Tryz.f30 7 3) [44, 46] [t79, t103] h101 fun t104 h105 =>
K.ldsK ctx 98 2 t90 h105 fun t106 =>
K.callFK run 51 [t73, t75, t106] h105 fun t107 h108 =>
K.addK (K.binV ctx .add 3 true t85 (.int .i64 (.ofNat 1))) t85 (.int .i64 (.ofNat 1)) fun t109 =>
s72 [t73, t75, t77, t79, t81, t83, t109] m70 h108) (
j22 [t73, t77] m70 h71))) [t0, t2, t12, t17, t12, t68, (.int .i64 (.ofNat 0))] [] h18)
noncomputable def r31 : K.KRun → List AV → H → K.KR := fun run args h => K.uncons args fun t0 l1 => K.unnil l1 (
K.boxK t0 h fun t2 h3 =>
K.ldK ctx 43 t2 h3 fun t4 =>
K.nilK t4 fun t5 =>
K.fldK 710 t5 fun t6 =>
K.idxAK 64 1 t6 (.int .i64 (.ofNat 1)) fun t7 =>
K.ldK ctx 37 t7 h3 fun t8 =>
K.addK (K.binV ctx .add 37 true t8 (.int .u64 (.ofNat 1))) t8 (.int .u64 (.ofNat 1)) fun t9 =>
K.nilK t4 fun t10 =>
K.fldK 710 t10 fun t11 =>
K.idxAK 64 1 t11 (.int .i64 (.ofNat 1)) fun t12 =>
K.stK t12 t9 h3 fun h13 =>
K.ldK ctx 43 t2 h13 fun t14 =>
K.callFK run 15 [t14, (.func (.func 52) [] [t2])] h13 fun t15 h16 =>
K.unmarkK [] h16 fun h17 => .ok (.tup []) h17)
noncomputable def r32 : K.KRun → List AV → H → K.KR := fun run args h => K.uncons args fun t0 l1 => K.unnil l1 (
K.boxK t0 h fun t2 h3 =>
K.ldK ctx 43 t2 h3 fun t4 =>
K.callFK run 15 [t4, (.func (.func 53) [] [t2])] h3 fun t5 h6 =>
K.unmarkK [] h6 fun h7 => .ok (.tup []) h7)
noncomputable def r33 : K.KRun → List AV → H → K.KR := fun run args h => K.uncons args fun t0 l1 => K.unnil l1 (
K.boxK t0 h fun t2 h3 =>
K.slowK ctx run (K.opAt Go.Proofs.Tryz.f33 1 0) [] [] h3 fun t4 h5 =>
K.allocK (K.zN ctx 100) (K.zT ctx 100) h5 fun t6 h7 =>
K.stK t6 t4 h7 fun h8 =>
K.ldK ctx 43 t2 h8 fun t9 =>
K.callFK run 15 [t9, (.func (.func 54) [] [t2, t6])] h8 fun t10 h11 =>
K.loopV (nat_lit 1000000) (fun s15 l12 m13 h14 => K.uncons l12 fun t16 l17 => K.uncons l17 fun t18 l19 => K.uncons l19 fun t20 l21 => K.unnil l21 (
K.ldK ctx 43 t16 h14 fun t22 =>
K.nilK t22 fun t23 =>
K.fldK 1 t23 fun t24 =>
K.fldK 2 t24 fun t25 =>
K.ldK ctx 3 t25 h14 fun t26 =>
K.ltK (K.binV ctx .lss 3 false t20 t26) t20 t26 fun t27 =>
K.iteV t27 (
K.ldK ctx 43 t16 h14 fun t28 =>
K.nilK t28 fun t29 =>
K.fldK 5 t29 fun t30 =>
K.ldK ctx 51 t30 h14 fun t31 =>
K.ldK ctx 100 t18 h14 fun t32 =>
K.slowK ctx run (K.opAt Go.Proofs.Tryz.f33 6 8) [23, 24] [t32, t20] h14 fun t33 h34 =>
K.callFK run 42 [t31, t20] h34 fun t35 h36 =>
K.slowK ctx run (K.opAt Go.Proofs.Tryz.f33 6 8) [23, 24] [t32, t20] h36 fun t37 h38 =>
K.req (AV.same t33 t37) (
K.ldK ctx 100 t18 h36 fun t39 =>
K.req (AV.same t32 t39) (
K.eqK (K.binV ctx .eql 4 false t35 t33) t35 t33 fun t40 =>
K.callFK run 36 [t40, (.int .i64 (.ofNat 10)), t20, (.int .i64 (.ofNat 0))] h36 fun t41 h42 =>
K.addK (K.binV ctx .add 3 true t20 (.int .i64 (.ofNat 1))) t20 (.int .i64 (.ofNat 1)) fun t43 =>
s15 [t16, t18, t43] m13 h42))) (
K.unmarkK m13 h14 fun h44 => .ok (.tup []) h44))) [t2, t6, (.int .i64 (.ofNat 1))] [] h11)
noncomputable def r34 : K.KRun → List AV → H → K.KR := fun run args h => K.uncons args fun t0 l1 => K.unnil l1 (
K.boxK t0 h fun t2 h3 =>
K.ldK ctx 43 t2 h3 fun t4 =>
K.callFK run 15 [t4, (.func (.func 57) [] [t2])] h3 fun t5 h6 =>
K.unmarkK [] h6 fun h7 => .ok (.tup []) h7)
noncomputable def r35 : K.KRun → List AV → H → K.KR := fun run args h => K.unnil args (
K.unmarkK [] h fun h0 => .ok (.int .i64 (.ofNat 264)) h0)
noncomputable def r36 : K.KRun → List AV → H → K.KR := fun run args h => K.uncons args fun t0 l1 => K.uncons l1 fun t2 l3 => K.uncons l3 fun t4 l5 => K.uncons l5 fun t6 l7 => K.unnil l7 (
K.notK t0 fun t8 =>
K.iteV t8 (
K.bldSK ctx 29 [(0, t2), (1, t4), (2, t6)] fun t9 =>
K.slowK ctx run (K.opAt Go.Proofs.Tryz.f36 1 5) [14] [(.iface 29 t9)] h fun t10 h11 =>
K.unmarkK [] h11 fun h12 => .ok (.tup []) h12) (
K.unmarkK [] h fun h13 => .ok (.tup []) h13))
noncomputable def r37 : K.KRun → List AV → H → K.KR := fun run args h => K.uncons args fun t0 l1 => K.unnil l1 (
K.callFK run 60 [t0] h fun t2 h3 =>
K.slowK ctx run (K.opAt Go.Proofs.Tryz.f37 1 2) [] [] h3 fun t4 h5 =>
K.bldSK ctx 106 [(0, t2), (1, t4)] fun t6 =>
K.boxK t6 h5 fun t7 h8 =>
K.unmarkK [] h8 fun h9 => .ok t7 h9)
noncomputable def r38 : K.KRun → List AV → H → K.KR := fun run args h => K.uncons args fun t0 l1 => K.uncons l1 fun t2 l3 => K.uncons l3 fun t4 l5 => K.unnil l5 (
K.eqK (K.binV ctx .eql 50 true t0 .nilPtr) t0 .nilPtr fun t6 =>
K.iteV t6 (
K.unmarkK [] h fun h7 => .ok (.tup [.nilPtr, (.int .i64 (.ofNat 2))]) h7) (
K.ltK (K.binV ctx .lss 3 true t4 (.int .i64 (.ofNat 1))) t4 (.int .i64 (.ofNat 1)) fun t8 =>
K.iteV t8 (
K.unmarkK [] h fun h9 => .ok (.tup [.nilPtr, (.int .i64 (.ofNat 1))]) h9) (
K.letK (fun (l10 : List AV) (m11 : List Nat) (h12 : H) => K.uncons l10 fun t14 l15 => K.uncons l15 fun t16 l17 => K.uncons l17 fun t18 l19 => K.uncons l19 fun t20 l21 => K.unnil l21 (
K.iteV t20 (
K.unmarkK m11 h12 fun h22 => .ok (.tup [.nilPtr, (.int .i64 (.ofNat 8))]) h22) (
K.bldSK ctx 108 [(0, t14), (1, t16), (2, t18)] fun t23 =>
K.boxK t23 h12 fun t24 h25 =>
K.unmarkK m11 h25 fun h26 => .ok (.tup [t24, (.int .i64 (.ofNat 0))]) h26))) fun j13 =>
K.ltK (K.binV ctx .lss 3 true t2 (.int .i64 (.ofNat 0))) t2 (.int .i64 (.ofNat 0)) fun t27 =>
K.iteV t27 (
j13 [t0, t2, t4, t27] [] h) (
K.callFK run 61 [t0] h fun t28 h29 =>
K.geK (K.binV ctx .geq 3 false t2 t28) t2 t28 fun t30 =>
K.iteV t30 (
j13 [t0, t2, t4, t30] [] h29) (
K.subK (K.binV ctx .sub 3 true t4 (.int .i64 (.ofNat 1))) t4 (.int .i64 (.ofNat 1)) fun t31 =>
K.oK (K.binV ctx .quo 3 true t31 (.int .i64 (.ofNat 64))) fun t32 =>
K.callFK run 61 [t0] h29 fun t33 h34 =>
K.subK (K.binV ctx .sub 3 false t33 t2) t33 t2 fun t35 =>
K.geK (K.binV ctx .geq 3 false t32 t35) t32 t35 fun t36 =>
j13 [t0, t2, t4, t36] [] h34)))))
noncomputable def r39 : K.KRun → List AV → H → K.KR := fun run args h => K.uncons args fun t0 l1 => K.unnil l1 (
K.boxK t0 h fun t2 h3 =>
K.ldsK ctx 25 3 t2 h3 fun t4 =>
K.callFK run 62 [t4, (.int .u8 (.ofNat 6)), (.int .i64 (.ofNat 0))] h3 fun t5 h6 =>
K.unmarkK [] h6 fun h7 => .ok t5 h7)
noncomputable def r40 : K.KRun → List AV → H → K.KR := fun run args h => K.uncons args fun t0 l1 => K.unnil l1 (
K.boxK t0 h fun t2 h3 =>
K.ldsK ctx 25 3 t2 h3 fun t4 =>
K.callFK run 62 [t4, (.int .u8 (.ofNat 7)), (.int .i64 (.ofNat 0))] h3 fun t5 h6 =>
K.unmarkK [] h6 fun h7 => .ok t5 h7)
noncomputable def r41 : K.KRun → List AV → H → K.KR := fun run args h => K.uncons args fun t0 l1 => K.uncons l1 fun t2 l3 => K.uncons l3 fun t4 l5 => K.unnil l5 (
K.boxK t2 h fun t6 h7 =>
K.allocK (K.zN ctx 49) (K.zT ctx 49) h7 fun t8 h9 =>
K.ldsK ctx 25 3 t6 h9 fun t10 =>
K.callFK run 63 [t0, t10, t4] h9 fun t11 h12 =>
K.extK t11 0 fun t13 =>
K.extK t11 1 fun t14 =>
K.neK (K.binV ctx .neq 71 true t14 (.int .i64 (.ofNat 0))) t14 (.int .i64 (.ofNat 0)) fun t15 =>
K.iteV t15 (
K.bldSK ctx 49 [] fun t16 =>
K.stsK 10 t8 t16 h12 fun h17 =>
K.unmarkK [] h17 fun h18 => K.asPtr t8 fun n19 n20 => K.loads h18 n19 n20 10 fun t21 => .ok (.tup [(.agg t21), t14]) h18) (
K.allocK (K.zN ctx 112) (K.zT ctx 112) h12 fun t22 h23 =>
K.letK (fun (l24 : List AV) (m25 : List Nat) (h26 : H) => K.uncons l24 fun t28 l29 => K.uncons l29 fun t30 l31 => K.uncons l31 fun t32 l33 => K.unnil l33 (
K.ldsK ctx 112 10 t32 h26 fun t34 =>
K.callFK run 64 [t34] h26 fun t35 h36 =>
K.allocK (K.zN ctx 49) (K.zT ctx 49) h36 fun t37 h38 =>
K.stsK 10 t37 t35 h38 fun h39 =>
K.ldsK ctx 25 3 t28 h39 fun t40 =>
K.ldsK ctx 49 10 t37 h39 fun t41 =>
K.callFK run 65 [t40, t41] h39 fun t42 h43 =>
K.notK t42 fun t44 =>
K.iteV t44 (
K.bldSK ctx 49 [] fun t45 =>
K.stsK 10 t30 t45 h43 fun h46 =>
K.unmarkK m25 h46 fun h47 => K.asPtr t30 fun n48 n49 => K.loads h47 n48 n49 10 fun t50 => .ok (.tup [(.agg t50), (.int .i64 (.ofNat 4))]) h47) (
K.ldsK ctx 49 10 t37 h43 fun t51 =>
K.stsK 10 t30 t51 h43 fun h52 =>
K.unmarkK m25 h52 fun h53 => K.asPtr t30 fun n54 n55 => K.loads h53 n54 n55 10 fun t56 => .ok (.tup [(.agg t56), (.int .i64 (.ofNat 0))]) h53))) fun j27 =>
K.loopV (nat_lit 1000000) (fun s60 l57 m58 h59 => K.uncons l57 fun t61 l62 => K.uncons l62 fun t63 l64 => K.uncons l64 fun t65 l66 => K.uncons l66 fun t67 l68 => K.uncons l68 fun t69 l70 => K.uncons l70 fun t71 l72 => K.unnil l72 (
K.ltK (K.binV ctx .lss 3 true t71 (.int .i64 (.ofNat 10))) t71 (.int .i64 (.ofNat 10)) fun t73 =>
K.iteV t73 (
K.addK (K.binV ctx .add 3 false t67 t71) t67 t71 fun t74 =>
K.callFK run 49 [t61, t74] h59 fun t75 h76 =>
K.idxAK 10 1 t69 t71 fun t77 =>
K.stK t77 t75 h76 fun h78 =>
K.addK (K.binV ctx .add 3 true t71 (.int .i64 (.ofNat 1))) t71 (.int .i64 (.ofNat 1)) fun t79 =>
s60 [t61, t63, t65, t67, t69, t79] m58 h78) (
j27 [t63, t65, t69] m58 h59))) [t0, t6, t8, t13, t22, (.int .i64 (.ofNat 0))] [] h23))
noncomputable def r42 : K.KRun → List AV → H → K.KR := fun run args h => K.uncons args fun t0 l1 => K.uncons l1 fun t2 l3 => K.unnil l3 (
K.callFK run 66 [t0, t2] h fun t4 h5 =>
K.notK t4 fun t6 =>
K.iteV t6 (
K.unmarkK [] h5 fun h7 => .ok (.bool false) h7) (
K.callFK run 67 [t0, t2] h5 fun t8 h9 =>
K.extK t8 0 fun t10 =>
K.extK t8 1 fun t11 =>
K.nilK t0 fun t12 =>
K.fldK 0 t12 fun t13 =>
K.ldK ctx 50 t13 h9 fun t14 =>
K.callFK run 49 [t14, t10] h9 fun t15 h16 =>
K.oK (K.binV ctx .and 37 false t15 t11) fun t17 =>
K.neK (K.binV ctx .neq 37 true t17 (.int .u64 (.ofNat 0))) t17 (.int .u64 (.ofNat 0)) fun t18 =>
K.unmarkK [] h16 fun h19 => .ok t18 h19))
noncomputable def r43 : K.KRun → List AV → H → K.KR := fun run args h => K.uncons args fun t0 l1 => K.uncons l1 fun t2 l3 => K.uncons l3 fun t4 l5 => K.unnil l5 (
K.nilK t0 fun t6 =>
K.fldK 646 t6 fun t7 =>
K.idxAK 64 1 t7 t2 fun t8 =>
K.ldK ctx 4 t8 h fun t9 =>
K.letK (fun (t10 : AV) (h11 : H) => K.letK (fun (t13 : AV) (h14 : H) => K.letK (fun (t16 : AV) (h17 : H) => K.letK (fun (t19 : AV) (h20 : H) => K.letK (fun (t22 : AV) (h23 : H) => K.letK (fun (t25 : AV) (h26 : H) => K.letK (fun (t28 : AV) (h29 : H) => K.letK (fun (t31 : AV) (h32 : H) => K.letK (fun (t34 : AV) (h35 : H) => K.pickK t9 t34 (.bool false) fun t37 =>
K.unmarkK [] h35 fun h38 => .ok t37 h38) fun j36 =>
K.guK true t9 (K.eqK (K.binV ctx .eql 37 false t28 t31) t28 t31 fun t39 =>
j36 t39 h32) (j36 (.tup []) h32)) fun j33 =>
K.guK true t9 (j33 t4 h29) (j33 (.tup []) h29)) fun j30 =>
K.guK true t9 (K.ldK ctx 37 t25 h26 fun t40 =>
j30 t40 h26) (j30 (.tup []) h26)) fun j27 =>
K.guK true t9 (K.fldK 0 t22 fun t41 =>
j27 t41 h23) (j27 (.tup []) h23)) fun j24 =>
K.guK true t9 (K.idxAK 64 10 t19 t13 fun t42 =>
j24 t42 h20) (j24 (.tup []) h20)) fun j21 =>
K.guK true t9 (K.fldK 6 t16 fun t43 =>
j21 t43 h17) (j21 (.tup []) h17)) fun j18 =>
K.guK true t9 (K.nilK t10 fun t44 =>
j18 t44 h14) (j18 (.tup []) h14)) fun j15 =>
K.guK true t9 (j15 t2 h11) (j15 (.tup []) h11)) fun j12 =>
K.guK true t9 (j12 t0 h) (j12 (.tup []) h))
noncomputable def r44 : K.KRun → List AV → H → K.KR := fun run args h => K.uncons args fun t0 l1 => K.uncons l1 fun t2 l3 => K.unnil l3 (
K.allocK (K.zN ctx 79) (K.zT ctx 79) h fun t4 h5 =>
K.callFK run 68 [t0, t2] h5 fun t6 h7 =>
K.extK t6 0 fun t8 =>
K.extK t6 1 fun t9 =>
K.neK (K.binV ctx .neq 71 true t9 (.int .i64 (.ofNat 0))) t9 (.int .i64 (.ofNat 0)) fun t10 =>
K.iteV t10 (
K.bldSK ctx 79 [] fun t11 =>
K.stsK 3 t4 t11 h7 fun h12 =>
K.unmarkK [] h12 fun h13 => K.asPtr t4 fun n14 n15 => K.loads h13 n14 n15 3 fun t16 => .ok (.tup [(.agg t16), t9]) h13) (
K.callFK run 49 [t0, t8] h7 fun t17 h18 =>
K.gtK (K.binV ctx .gtr 37 true t17 (.int .u64 (.ofNat 1))) t17 (.int .u64 (.ofNat 1)) fun t19 =>
K.iteV t19 (
K.bldSK ctx 79 [] fun t20 =>
K.stsK 3 t4 t20 h18 fun h21 =>
K.unmarkK [] h21 fun h22 => K.asPtr t4 fun n23 n24 => K.loads h22 n23 n24 3 fun t25 => .ok (.tup [(.agg t25), (.int .i64 (.ofNat 4))]) h22) (
K.eqK (K.binV ctx .eql 37 true t17 (.int .u64 (.ofNat 1))) t17 (.int .u64 (.ofNat 1)) fun t26 =>
K.addK (K.binV ctx .add 3 true t8 (.int .i64 (.ofNat 1))) t8 (.int .i64 (.ofNat 1)) fun t27 =>
K.callFK run 49 [t0, t27] h18 fun t28 h29 =>
K.addK (K.binV ctx .add 3 true t8 (.int .i64 (.ofNat 2))) t8 (.int .i64 (.ofNat 2)) fun t30 =>
K.callFK run 49 [t0, t30] h29 fun t31 h32 =>
K.bldSK ctx 79 [(0, t26), (1, t28), (2, t31)] fun t33 =>
K.stsK 3 t4 t33 h32 fun h34 =>
K.unmarkK [] h34 fun h35 => K.asPtr t4 fun n36 n37 => K.loads h35 n36 n37 3 fun t38 => .ok (.tup [(.agg t38), (.int .i64 (.ofNat 0))]) h35)))
noncomputable def r45 : K.KRun → List AV → H → K.KR := fun run args h => K.uncons args fun t0 l1 => K.uncons l1 fun t2 l3 => K.uncons l3 fun t4 l5 => K.unnil l5 (
K.nilK t0 fun t6 =>
K.fldK 0 t6 fun t7 =>
K.ldK ctx 50 t7 h fun t8 =>
K.callFK run 69 [t2, t4] h fun t9 h10 =>
K.ldK ctx 50 t7 h10 fun t11 =>
K.req (AV.same t8 t11) (
K.callFK run 49 [t8, t9] h10 fun t12 h13 =>
K.eqK (K.binV ctx .eql 37 true t12 (.int .u64 (.ofNat 0))) t12 (.int .u64 (.ofNat 0)) fun t14 =>
K.unmarkK [] h13 fun h15 => .ok t14 h15))
noncomputable def r46 : K.KRun → List AV → H → K.KR := fun run args h => K.uncons args fun t0 l1 => K.uncons l1 fun t2 l3 => K.uncons l3 fun t4 l5 => K.unnil l5 (
K.allocK (K.zN ctx 84) (K.zT ctx 84) h fun t6 h7 =>
K.callFK run 70 [t0, t2, t4] h7 fun t8 h9 =>
K.extK t8 0 fun t10 =>
K.extK t8 1 fun t11 =>
K.neK (K.binV ctx .neq 71 true t11 (.int .i64 (.ofNat 0))) t11 (.int .i64 (.ofNat 0)) fun t12 =>
K.letK (fun (t13 : AV) (h14 : H) => K.letK (fun (t16 : AV) (h17 : H) => K.letK (fun (t19 : AV) (h20 : H) => K.letK (fun (t22 : AV) (h23 : H) => K.pickK t12 (.bool true) t22 fun t25 =>
K.iteV t25 (
K.bldSK ctx 84 [] fun t26 =>
K.stsK 4 t6 t26 h23 fun h27 =>
K.unmarkK [] h27 fun h28 => K.asPtr t6 fun n29 n30 => K.loads h28 n29 n30 4 fun t31 => .ok (.tup [(.int .u64 (.ofNat 0)), (.agg t31), t11]) h28) (
K.addK (K.binV ctx .add 3 true t10 (.int .i64 (.ofNat 1))) t10 (.int .i64 (.ofNat 1)) fun t32 =>
K.callFK run 49 [t0, t32] h23 fun t33 h34 =>
K.oK (K.binV ctx .rem 37 true t33 (.int .u64 (.ofNat 256))) fun t35 =>
K.addK (K.binV ctx .add 3 true t10 (.int .i64 (.ofNat 1))) t10 (.int .i64 (.ofNat 1)) fun t36 =>
K.callFK run 49 [t0, t36] h34 fun t37 h38 =>
K.oK (K.binV ctx .quo 37 true t37 (.int .u64 (.ofNat 256))) fun t39 =>
K.gtK (K.binV ctx .gtr 37 true t35 (.int .u64 (.ofNat 24))) t35 (.int .u64 (.ofNat 24)) fun t40 =>
K.letK (fun (t41 : AV) (h42 : H) => K.letK (fun (t44 : AV) (h45 : H) => K.pickK t40 (.bool true) t44 fun t47 =>
K.iteV t47 (
K.bldSK ctx 84 [] fun t48 =>
K.stsK 4 t6 t48 h45 fun h49 =>
K.unmarkK [] h49 fun h50 => K.asPtr t6 fun n51 n52 => K.loads h50 n51 n52 4 fun t53 => .ok (.tup [(.int .u64 (.ofNat 0)), (.agg t53), (.int .i64 (.ofNat 4))]) h50) (
K.letK (fun (l54 : List AV) (m55 : List Nat) (h56 : H) => K.uncons l54 fun t58 l59 => K.uncons l59 fun t60 l61 => K.uncons l61 fun t62 l63 => K.uncons l63 fun t64 l65 => K.uncons l65 fun t66 l67 => K.uncons l67 fun t68 l69 => K.unnil l69 (
K.rK (convA ctx 37 3 t66 h56) fun t70 h71 =>
K.callFK run 71 [t68, t70] h71 fun t72 h73 =>
K.extK t72 0 fun t74 =>
K.extK t72 1 fun t75 =>
K.neK (K.binV ctx .neq 71 true t75 (.int .i64 (.ofNat 0))) t75 (.int .i64 (.ofNat 0)) fun t76 =>
K.iteV t76 (
K.bldSK ctx 84 [] fun t77 =>
K.stsK 4 t60 t77 h73 fun h78 =>
K.unmarkK m55 h78 fun h79 => K.asPtr t60 fun n80 n81 => K.loads h79 n80 n81 4 fun t82 => .ok (.tup [(.int .u64 (.ofNat 0)), (.agg t82), t75]) h79) (
K.callFK run 49 [t58, t62] h73 fun t83 h84 =>
K.rK (convA ctx 37 71 t64 h84) fun t85 h86 =>
K.addK (K.binV ctx .add 3 true t62 (.int .i64 (.ofNat 2))) t62 (.int .i64 (.ofNat 2)) fun t87 =>
K.callFK run 49 [t58, t87] h86 fun t88 h89 =>
K.addK (K.binV ctx .add 3 true t62 (.int .i64 (.ofNat 3))) t62 (.int .i64 (.ofNat 3)) fun t90 =>
K.callFK run 49 [t58, t90] h89 fun t91 h92 =>
K.bldSK ctx 84 [(0, t85), (1, t88), (2, t91), (3, t74)] fun t93 =>
K.stsK 4 t60 t93 h92 fun h94 =>
K.unmarkK m55 h94 fun h95 => K.asPtr t60 fun n96 n97 => K.loads h95 n96 n97 4 fun t98 => .ok (.tup [t83, (.agg t98), (.int .i64 (.ofNat 0))]) h95))) fun j57 =>
K.loopV (nat_lit 1000000) (fun s102 l99 m100 h101 => K.uncons l99 fun t103 l104 => K.uncons l104 fun t105 l106 => K.uncons l106 fun t107 l108 => K.uncons l108 fun t109 l110 => K.uncons l110 fun t111 l112 => K.uncons l112 fun t113 l114 => K.uncons l114 fun t115 l116 => K.unnil l116 (
K.ltK (K.binV ctx .lss 3 true t115 (.int .i64 (.ofNat 12))) t115 (.int .i64 (.ofNat 12)) fun t117 =>
K.iteV t117 (
K.addK (K.binV ctx .add 3 false t107 t115) t107 t115 fun t118 =>
K.callFK run 49 [t103, t118] h101 fun t119 h120 =>
K.bslK ctx 37 1 1 [(0, t119)] h120 fun t121 h122 =>
K.appK ctx 37 1 t113 t121 h122 fun t123 h124 =>
K.addK (K.binV ctx .add 3 true t115 (.int .i64 (.ofNat 1))) t115 (.int .i64 (.ofNat 1)) fun t125 =>
s102 [t103, t105, t107, t109, t111, t123, t125] m100 h124) (
j57 [t103, t105, t107, t109, t111, t113] m100 h101))) [t0, t6, t10, t35, t39, .nilSlice, (.int .i64 (.ofNat 4))] [] h45)) fun j46 =>
K.guK false t40 (K.gtK (K.binV ctx .gtr 37 true t41 (.int .u64 (.ofNat 64))) t41 (.int .u64 (.ofNat 64)) fun t126 =>
j46 t126 h42) (j46 (.tup []) h42)) fun j43 =>
K.guK false t40 (j43 t39 h38) (j43 (.tup []) h38))) fun j24 =>
K.guK false t12 (K.eqK (K.binV ctx .eql 37 true t19 (.int .u64 (.ofNat 0))) t19 (.int .u64 (.ofNat 0)) fun t127 =>
j24 t127 h20) (j24 (.tup []) h20)) fun j21 =>
K.guK false t12 (K.callFK run 49 [t13, t16] h17 fun t128 h129 =>
j21 t128 h129) (j21 (.tup []) h17)) fun j18 =>
K.guK false t12 (j18 t10 h14) (j18 (.tup []) h14)) fun j15 =>
K.guK false t12 (j15 t0 h9) (j15 (.tup []) h9))
noncomputable def r48 : K.KRun → List AV → H → K.KR := fun run args h => K.uncons args fun t0 l1 => K.uncons l1 fun t2 l3 => K.unnil l3 (
K.boxK t0 h fun t4 h5 =>
K.ldsK ctx 25 3 t4 h5 fun t6 =>
K.callFK run 62 [t6, (.int .u8 (.ofNat 8)), t2] h5 fun t7 h8 =>
K.unmarkK [] h8 fun h9 => .ok t7 h9)
noncomputable def r49 : K.KRun → List AV → H → K.KR := fun run args h => K.uncons args fun t0 l1 => K.uncons l1 fun t2 l3 => K.unnil l3 (
K.callFK run 73 [t0, t2] h fun t4 h5 =>
K.notK t4 fun t6 =>
K.iteV t6 (
K.unmarkK [] h5 fun h7 => .ok (.int .u64 (.ofNat 0)) h7) (
K.nilK t0 fun t8 =>
K.fldK 1 t8 fun t9 =>
K.ldK ctx 104 t9 h5 fun t10 =>
K.slowK ctx run (K.opAt Go.Proofs.Tryz.f49 3 5) [15, 16] [t10, t2] h5 fun t11 h12 =>
K.extK t11 0 fun t13 =>
K.extK t11 1 fun t14 =>
K.iteV t14 (
K.unmarkK [] h12 fun h15 => .ok t13 h15) (
K.nilK t0 fun t16 =>
K.fldK 0 t16 fun t17 =>
K.ldK ctx 22 t17 h12 fun t18 =>
K.idxSK 1 t18 t2 fun t19 =>
K.ldK ctx 37 t19 h12 fun t20 =>
K.unmarkK [] h12 fun h21 => .ok t20 h21)))
noncomputable def r50 : K.KRun → List AV → H → K.KR := fun run args h => K.uncons args fun t0 l1 => K.uncons l1 fun t2 l3 => K.uncons l3 fun t4 l5 => K.unnil l5 (
K.boxK t2 h fun t6 h7 =>
K.allocK (K.zN ctx 93) (K.zT ctx 93) h7 fun t8 h9 =>
K.allocK (K.zN ctx 71) (K.zT ctx 71) h9 fun t10 h11 =>
K.ldsK ctx 25 3 t6 h11 fun t12 =>
K.callFK run 74 [t0, t12, t4] h11 fun t13 h14 =>
K.extK t13 0 fun t15 =>
K.extK t13 1 fun t16 =>
K.allocK (K.zN ctx 126) (K.zT ctx 126) h14 fun t17 h18 =>
K.stsK 5 t17 t15 h18 fun h19 =>
K.stK t10 t16 h19 fun h20 =>
K.ldK ctx 71 t10 h20 fun t21 =>
K.neK (K.binV ctx .neq 71 true t21 (.int .i64 (.ofNat 0))) t21 (.int .i64 (.ofNat 0)) fun t22 =>
K.iteV t22 (
K.ldK ctx 71 t10 h20 fun t23 =>
K.stK t8 .nilSlice h20 fun h24 =>
K.ldK ctx 71 t10 h24 fun t25 =>
K.req (AV.same t23 t25) (
K.stK t10 t23 h24 fun h26 =>
K.unmarkK [] h26 fun h27 => K.asPtr t8 fun n28 n29 => K.load1 h27 n28 n29 fun t30 => K.asPtr t10 fun n31 n32 => K.load1 h27 n31 n32 fun t33 => .ok (.tup [t30, t33]) h27)) (
K.letK (fun (l34 : List AV) (m35 : List Nat) (h36 : H) => K.uncons l34 fun t38 l39 => K.uncons l39 fun t40 l41 => K.unnil l41 (
K.ldK ctx 93 t38 h36 fun t42 =>
K.stK t38 t42 h36 fun h43 =>
K.stK t40 (.int .i64 (.ofNat 0)) h43 fun h44 =>
K.unmarkK m35 h44 fun h45 => K.asPtr t38 fun n46 n47 => K.load1 h45 n46 n47 fun t48 => K.asPtr t40 fun n49 n50 => K.load1 h45 n49 n50 fun t51 => .ok (.tup [t48, t51]) h45)) fun j37 =>
K.callFK run 75 [(.int .i64 (.ofNat 0))] h20 fun t52 h53 =>
K.hNew h53 .marks fun r54 h55 => K.hNew h55 (.loop .ready none (K.mkT [6, 7, 8, 22] [t8, t10, t17, t52]) 1 r54) fun n56 h57 =>
K.rngK ctx run t52 n56 h57 (fun h59 => j37 [t8, t10] (r54 :: []) h59) (fun h60 => K.unmarkK (r54 :: []) h60 fun h63 => K.asPtr t8 fun n64 n65 => K.load1 h63 n64 n65 fun t66 => K.asPtr t10 fun n67 n68 => K.load1 h63 n67 n68 fun t69 => .ok (.tup [t66, t69]) h63) fun i58 h61 => (Bool.rec (motive := fun _ => K.KR) (.bad) (j37 [t8, t10] (r54 :: []) h61) (Nat.beq i58 0))))
noncomputable def r52 : K.KRun → List AV → H → K.KR := fun run args h => K.uncons args fun t0 l1 => K.uncons l1 fun t2 l3 => K.uncons l3 fun t4 l5 => K.unnil l5 (
K.boxK t2 h fun t6 h7 =>
K.fldK 1 t6 fun t8 =>
K.ldK ctx 37 t8 h7 fun t9 =>
K.ldK ctx 43 t4 h7 fun t10 =>
K.nilK t10 fun t11 =>
K.fldK 710 t11 fun t12 =>
K.idxAK 64 1 t12 t0 fun t13 =>
K.ldK ctx 37 t13 h7 fun t14 =>
K.eqK (K.binV ctx .eql 37 false t9 t14) t9 t14 fun t15 =>
K.callFK run 36 [t15, (.int .i64 (.ofNat 7)), t0, (.int .i64 (.ofNat 0))] h7 fun t16 h17 =>
K.unmarkK [] h17 fun h18 => .ok (.tup []) h18)
noncomputable def r53 : K.KRun → List AV → H → K.KR := fun run args h => K.uncons args fun t0 l1 => K.uncons l1 fun t2 l3 => K.uncons l3 fun t4 l5 => K.unnil l5 (
K.boxK t2 h fun t6 h7 =>
K.fldK 2 t6 fun t8 =>
K.ldK ctx 37 t8 h7 fun t9 =>
K.ldK ctx 43 t4 h7 fun t10 =>
K.nilK t10 fun t11 =>
K.fldK 774 t11 fun t12 =>
K.idxAK 64 1 t12 t0 fun t13 =>
K.ldK ctx 37 t13 h7 fun t14 =>
K.eqK (K.binV ctx .eql 37 false t9 t14) t9 t14 fun t15 =>
K.letK (fun (t16 : AV) (h17 : H) => K.letK (fun (t19 : AV) (h20 : H) => K.letK (fun (t22 : AV) (h23 : H) => K.letK (fun (t25 : AV) (h26 : H) => K.letK (fun (t28 : AV) (h29 : H) => K.letK (fun (t31 : AV) (h32 : H) => K.pickK t15 t31 (.bool false) fun t34 =>
K.callFK run 36 [t34, (.int .i64 (.ofNat 8)), t0, (.int .i64 (.ofNat 0))] h32 fun t35 h36 =>
K.unmarkK [] h36 fun h37 => .ok (.tup []) h37) fun j33 =>
K.guK true t15 (K.gtK (K.binV ctx .gtr 37 true t28 (.int .u64 (.ofNat 0))) t28 (.int .u64 (.ofNat 0)) fun t38 =>
j33 t38 h29) (j33 (.tup []) h29)) fun j30 =>
K.guK true t15 (K.addK (K.binV ctx .add 37 false t19 t25) t19 t25 fun t39 =>
j30 t39 h26) (j30 (.tup []) h26)) fun j27 =>
K.guK true t15 (K.ldK ctx 37 t22 h23 fun t40 =>
j27 t40 h23) (j27 (.tup []) h23)) fun j24 =>
K.guK true t15 (K.fldK 2 t6 fun t41 =>
j24 t41 h20) (j24 (.tup []) h20)) fun j21 =>
K.guK true t15 (K.ldK ctx 37 t16 h17 fun t42 =>
j21 t42 h17) (j21 (.tup []) h17)) fun j18 =>
K.guK true t15 (K.fldK 1 t6 fun t43 =>
j18 t43 h7) (j18 (.tup []) h7))
noncomputable def r54 : K.KRun → List AV → H → K.KR := fun run args h => K.uncons args fun t0 l1 => K.uncons l1 fun t2 l3 => K.uncons l3 fun t4 l5 => K.uncons l5 fun t6 l7 => K.unnil l7 (
K.boxK t2 h fun t8 h9 =>
K.allocK (K.zN ctx 32) (K.zT ctx 32) h9 fun t10 h11 =>
K.ldK ctx 43 t4 h11 fun t12 =>
K.callFK run 55 [t12, t0, (.func (.func 56) [] [t10])] h11 fun t13 h14 =>
K.letK (fun (l15 : List AV) (m16 : List Nat) (h17 : H) => K.uncons l15 fun t19 l20 => K.uncons l20 fun t21 l22 => K.uncons l22 fun t23 l24 => K.unnil l24 (
K.ldK ctx 32 t23 h17 fun t25 =>
K.lenVK t25 fun t26 =>
K.loopV (nat_lit 1000000) (fun s30 l27 m28 h29 => K.uncons l27 fun t31 l32 => K.uncons l32 fun t33 l34 => K.uncons l34 fun t35 l36 => K.uncons l36 fun t37 l38 => K.uncons l38 fun t39 l40 => K.unnil l40 (
K.ltK (K.binV ctx .lss 3 false t39 t37) t39 t37 fun t41 =>
K.iteV t41 (
K.idxSK 1 t35 t39 fun t42 =>
K.ldK ctx 3 t42 h29 fun t43 =>
K.ldK ctx 100 t33 h29 fun t44 =>
K.slowK ctx run (K.opAt Go.Proofs.Tryz.f54 8 2) [28, 29] [t44, t43] h29 fun t45 h46 =>
K.notK t45 fun t47 =>
K.callFK run 36 [t47, (.int .i64 (.ofNat 9)), t31, t43] h46 fun t48 h49 =>
K.ldK ctx 100 t33 h49 fun t50 =>
K.slowK ctx run (K.opAt Go.Proofs.Tryz.f54 9 2) [35, 36] [t50, t43] h49 fun t51 h52 =>
K.addK (K.binV ctx .add 3 true t39 (.int .i64 (.ofNat 1))) t39 (.int .i64 (.ofNat 1)) fun t53 =>
s30 [t31, t33, t35, t37, t53] m28 h52) (
K.unmarkK m28 h29 fun h54 => .ok (.tup []) h54))) [t19, t21, t25, t26, (.int .i64 (.ofNat 0))] m16 h17)) fun j18 =>
K.fldK 8 t8 fun t55 =>
K.ldK ctx 37 t55 h14 fun t56 =>
K.neK (K.binV ctx .neq 37 true t56 (.int .u64 (.ofNat 0))) t56 (.int .u64 (.ofNat 0)) fun t57 =>
K.iteV t57 (
K.ldK ctx 32 t10 h14 fun t58 =>
K.fldK 8 t8 fun t59 =>
K.ldK ctx 37 t59 h14 fun t60 =>
K.rK (convA ctx 37 3 t60 h14) fun t61 h62 =>
K.bslK ctx 3 1 1 [(0, t61)] h62 fun t63 h64 =>
K.appK ctx 3 1 t58 t63 h64 fun t65 h66 =>
K.stK t10 t65 h66 fun h67 =>
j18 [t0, t6, t10] [] h67) (
j18 [t0, t6, t10] [] h14))
noncomputable def r55 : K.KRun → List AV → H → K.KR := fun run args h => K.uncons args fun t0 l1 => K.uncons l1 fun t2 l3 => K.uncons l3 fun t4 l5 => K.unnil l5 (
K.nilK t0 fun t6 =>
K.fldK 0 t6 fun t7 =>
K.ldK ctx 50 t7 h fun t8 =>
K.nilK t0 fun t9 =>
K.fldK 1 t9 fun t10 =>
K.ldsK ctx 25 3 t10 h fun t11 =>
K.callFK run 77 [t8, t11, t2] h fun t12 h13 =>
K.extK t12 0 fun t14 =>
K.extK t12 1 fun t15 =>
K.eqK (K.binV ctx .eql 71 true t15 (.int .i64 (.ofNat 0))) t15 (.int .i64 (.ofNat 0)) fun t16 =>
K.callFK run 36 [t16, (.int .i64 (.ofNat 9)), t2, (.int .i64 (.ofNat 0))] h13 fun t17 h18 =>
K.loopV (nat_lit 1000000) (fun s22 l19 m20 h21 => K.uncons l19 fun t23 l24 => K.uncons l24 fun t25 l26 => K.uncons l26 fun t27 l28 => K.uncons l28 fun t29 l30 => K.unnil l30 (
K.ltK (K.binV ctx .lss 3 true t29 (.int .i64 (.ofNat 12))) t29 (.int .i64 (.ofNat 12)) fun t31 =>
K.iteV t31 (
K.letK (fun (l32 : List AV) (m33 : List Nat) (h34 : H) => K.uncons l32 fun t36 l37 => K.uncons l37 fun t38 l39 => K.uncons l39 fun t40 l41 => K.uncons l41 fun t42 l43 => K.unnil l43 (
K.addK (K.binV ctx .add 3 true t42 (.int .i64 (.ofNat 1))) t42 (.int .i64 (.ofNat 1)) fun t44 =>
s22 [t36, t38, t40, t44] m33 h34)) fun j35 =>
K.callFK run 78 [t27, t29] h21 fun t45 h46 =>
K.extK t45 0 fun t47 =>
K.extK t45 1 fun t48 =>
K.eqK (K.binV ctx .eql 71 true t48 (.int .i64 (.ofNat 0))) t48 (.int .i64 (.ofNat 0)) fun t49 =>
K.callFK run 36 [t49, (.int .i64 (.ofNat 9)), t23, (.int .i64 (.ofNat 0))] h46 fun t50 h51 =>
K.neK (K.binV ctx .neq 3 true t47 (.int .i64 (.ofNat 0))) t47 (.int .i64 (.ofNat 0)) fun t52 =>
K.iteV t52 (
K.callVK run t25 [t29, t47] h51 fun t53 h54 =>
j35 [t23, t25, t27, t29] m20 h54) (
j35 [t23, t25, t27, t29] m20 h51)) (
K.unmarkK m20 h21 fun h55 => .ok (.tup []) h55))) [t2, t4, t14, (.int .i64 (.ofNat 0))] [] h18)
noncomputable def r57 : K.KRun → List AV → H → K.KR := fun run args h => K.uncons args fun t0 l1 => K.uncons l1 fun t2 l3 => K.uncons l3 fun t4 l5 => K.unnil l5 (
K.boxK t0 h fun t6 h7 =>
K.boxK t2 h7 fun t8 h9 =>
K.fldK 8 t8 fun t10 =>
K.ldK ctx 37 t10 h9 fun t11 =>
K.eqK (K.binV ctx .eql 37 true t11 (.int .u64 (.ofNat 0))) t11 (.int .u64 (.ofNat 0)) fun t12 =>
K.letK (fun (t13 : AV) (h14 : H) => K.letK (fun (t16 : AV) (h17 : H) => K.letK (fun (t19 : AV) (h20 : H) => K.letK (fun (t22 : AV) (h23 : H) => K.ldK ctx 3 t6 h23 fun t25 =>
K.letK (fun (t26 : AV) (h27 : H) => K.letK (fun (t29 : AV) (h30 : H) => K.pickK t12 (.bool true) t29 fun t32 =>
K.callFK run 36 [t32, (.int .i64 (.ofNat 11)), t25, (.int .i64 (.ofNat 0))] h30 fun t33 h34 =>
K.fldK 0 t8 fun t35 =>
K.ldK ctx 37 t35 h34 fun t36 =>
K.neK (K.binV ctx .neq 37 true t36 (.int .u64 (.ofNat 1))) t36 (.int .u64 (.ofNat 1)) fun t37 =>
K.iteV t37 (
K.unmarkK [] h34 fun h38 => .ok (.tup []) h38) (
K.ldK ctx 43 t4 h34 fun t39 =>
K.ldK ctx 3 t6 h34 fun t40 =>
K.callFK run 55 [t39, t40, (.func (.func 59) [] [t8, t4, t6])] h34 fun t41 h42 =>
K.unmarkK [] h42 fun h43 => .ok (.tup []) h43)) fun j31 =>
K.guK false t12 (K.notK t26 fun t44 =>
j31 t44 h27) (j31 (.tup []) h27)) fun j28 =>
K.guK false t12 (K.callFK run 58 [t13, t22, (.int .i64 (.ofNat 0))] h23 fun t45 h46 =>
K.ldK ctx 3 t6 h46 fun t47 =>
K.req (AV.same t25 t47) (
j28 t45 h46)) (j28 (.tup []) h23)) fun j24 =>
K.guK false t12 (K.rK (convA ctx 37 3 t19 h20) fun t48 h49 =>
j24 t48 h49) (j24 (.tup []) h20)) fun j21 =>
K.guK false t12 (K.ldK ctx 37 t16 h17 fun t50 =>
j21 t50 h17) (j21 (.tup []) h17)) fun j18 =>
K.guK false t12 (K.fldK 8 t8 fun t51 =>
j18 t51 h14) (j18 (.tup []) h14)) fun j15 =>
K.guK false t12 (K.ldK ctx 43 t4 h9 fun t52 =>
j15 t52 h9) (j15 (.tup []) h9))
noncomputable def r60 : K.KRun → List AV → H → K.KR := fun run args h => K.uncons args fun t0 l1 => K.unnil l1 (
K.eqK (K.binV ctx .eql 22 true t0 .nilSlice) t0 .nilSlice fun t2 =>
K.iteV t2 (
K.unmarkK [] h fun h3 => .ok .nilSlice h3) (
K.bslK ctx 37 1 0 [] h fun t4 h5 =>
K.appK ctx 37 1 t4 t0 h5 fun t6 h7 =>
K.unmarkK [] h7 fun h8 => .ok t6 h8))
noncomputable def r61 : K.KRun → List AV → H → K.KR := fun run args h => K.uncons args fun t0 l1 => K.unnil l1 (
K.eqK (K.binV ctx .eql 50 true t0 .nilPtr) t0 .nilPtr fun t2 =>
K.iteV t2 (
K.unmarkK [] h fun h3 => .ok (.int .i64 (.ofNat 0)) h3) (
K.nilK t0 fun t4 =>
K.fldK 0 t4 fun t5 =>
K.ldK ctx 22 t5 h fun t6 =>
K.lenVK t6 fun t7 =>
K.unmarkK [] h fun h8 => .ok t7 h8))
noncomputable def r62 : K.KRun → List AV → H → K.KR := fun run args h => K.uncons args fun t0 l1 => K.uncons l1 fun t2 l3 => K.uncons l3 fun t4 l5 => K.unnil l5 (
K.boxK t0 h fun t6 h7 =>
K.letK (fun (l8 : List AV) (m9 : List Nat) (h10 : H) => K.unnil l8 (
K.unmarkK m9 h10 fun h12 => .ok (.int .i64 (.negSucc 0)) h12)) fun j11 =>
K.ldsK ctx 25 3 t6 h7 fun t13 =>
K.callFK run 22 [t13] h7 fun t14 h15 =>
K.loopV (nat_lit 1000000) (fun s19 l16 m17 h18 => K.uncons l16 fun t20 l21 => K.uncons l21 fun t22 l23 => K.uncons l23 fun t24 l25 => K.uncons l25 fun t26 l27 => K.uncons l27 fun t28 l29 => K.uncons l29 fun t30 l31 => K.unnil l31 (
K.ltK (K.binV ctx .lss 3 true t30 (.int .i64 (.ofNat 7))) t30 (.int .i64 (.ofNat 7)) fun t32 =>
K.iteV t32 (
K.idxK ctx 62 3 7 t28 t30 fun t33 =>
K.allocK (K.zN ctx 62) (K.zT ctx 62) h18 fun t34 h35 =>
K.stsK 3 t34 t33 h35 fun h36 =>
K.fldK 0 t34 fun t37 =>
K.ldK ctx 60 t37 h36 fun t38 =>
K.neK (K.binV ctx .neq 60 false t38 t20) t38 t20 fun t39 =>
K.iteV t39 (
K.fldK 1 t34 fun t40 =>
K.ldK ctx 3 t40 h36 fun t41 =>
K.fldK 2 t34 fun t42 =>
K.ldK ctx 3 t42 h36 fun t43 =>
K.mulK (K.binV ctx .mul 3 false t41 t43) t41 t43 fun t44 =>
K.addK (K.binV ctx .add 3 false t26 t44) t26 t44 fun t45 =>
K.addK (K.binV ctx .add 3 true t30 (.int .i64 (.ofNat 1))) t30 (.int .i64 (.ofNat 1)) fun t46 =>
s19 [t20, t22, t24, t45, t28, t46] m17 h36) (
K.ldsK ctx 25 3 t24 h36 fun t47 =>
K.callFK run 12 [t47] h36 fun t48 h49 =>
K.letK (fun (t50 : AV) (h51 : H) => K.letK (fun (t53 : AV) (h54 : H) => K.letK (fun (t56 : AV) (h57 : H) => K.letK (fun (t59 : AV) (h60 : H) => K.letK (fun (t62 : AV) (h63 : H) => K.pickK t48 t62 (.bool false) fun t65 =>
K.iteV t65 (
K.fldK 1 t34 fun t66 =>
K.ldK ctx 3 t66 h63 fun t67 =>
K.mulK (K.binV ctx .mul 3 false t67 t22) t67 t22 fun t68 =>
K.addK (K.binV ctx .add 3 false t26 t68) t26 t68 fun t69 =>
K.unmarkK m17 h63 fun h70 => .ok t69 h70) (
j11 [] m17 h63)) fun j64 =>
K.guK true t48 (K.callFK run 21 [t50, (.int .i64 (.ofNat 0)), t59] h60 fun t71 h72 =>
j64 t71 h72) (j64 (.tup []) h60)) fun j61 =>
K.guK true t48 (K.subK (K.binV ctx .sub 3 true t56 (.int .i64 (.ofNat 1))) t56 (.int .i64 (.ofNat 1)) fun t73 =>
j61 t73 h57) (j61 (.tup []) h57)) fun j58 =>
K.guK true t48 (K.ldK ctx 3 t53 h54 fun t74 =>
j58 t74 h54) (j58 (.tup []) h54)) fun j55 =>
K.guK true t48 (K.fldK 2 t34 fun t75 =>
j55 t75 h51) (j55 (.tup []) h51)) fun j52 =>
K.guK true t48 (j52 t22 h49) (j52 (.tup []) h49))) (
j11 [] m17 h18))) [t2, t4, t6, (.int .i64 (.ofNat 0)), t14, (.int .i64 (.ofNat 0))] [] h15)
noncomputable def r63 : K.KRun → List AV → H → K.KR := fun run args h => K.uncons args fun t0 l1 => K.uncons l1 fun t2 l3 => K.uncons l3 fun t4 l5 => K.unnil l5 (
K.boxK t2 h fun t6 h7 =>
K.ldsK ctx 25 3 t6 h7 fun t8 =>
K.callFK run 48 [t8, t4] h7 fun t9 h10 =>
K.eqK (K.binV ctx .eql 50 true t0 .nilPtr) t0 .nilPtr fun t11 =>
K.iteV t11 (
K.unmarkK [] h10 fun h12 => .ok (.tup [(.int .i64 (.ofNat 0)), (.int .i64 (.ofNat 2))]) h12) (
K.letK (fun (l13 : List AV) (m14 : List Nat) (h15 : H) => K.uncons l13 fun t17 l18 => K.uncons l18 fun t19 l20 => K.uncons l20 fun t21 l22 => K.uncons l22 fun t23 l24 => K.unnil l24 (
K.iteV t23 (
K.unmarkK m14 h15 fun h25 => .ok (.tup [(.int .i64 (.ofNat 0)), (.int .i64 (.ofNat 1))]) h25) (
K.ldsK ctx 25 3 t19 h15 fun t26 =>
K.callFK run 61 [t17] h15 fun t27 h28 =>
K.ldsK ctx 25 3 t19 h28 fun t29 =>
K.req (AV.same t26 t29) (
K.callFK run 13 [t26] h28 fun t30 h31 =>
K.ltK (K.binV ctx .lss 3 false t27 t30) t27 t30 fun t32 =>
K.iteV t32 (
K.unmarkK m14 h31 fun h33 => .ok (.tup [(.int .i64 (.ofNat 0)), (.int .i64 (.ofNat 8))]) h33) (
K.unmarkK m14 h31 fun h34 => .ok (.tup [t21, (.int .i64 (.ofNat 0))]) h34))))) fun j16 =>
K.ltK (K.binV ctx .lss 3 true t9 (.int .i64 (.ofNat 0))) t9 (.int .i64 (.ofNat 0)) fun t35 =>
K.iteV t35 (
j16 [t0, t6, t9, t35] [] h10) (
K.eqK (K.binV ctx .eql 3 true t4 (.int .i64 (.ofNat 0))) t4 (.int .i64 (.ofNat 0)) fun t36 =>
j16 [t0, t6, t9, t36] [] h10)))
noncomputable def r64 : K.KRun → List AV → H → K.KR := fun run args h => K.uncons args fun t0 l1 => K.unnil l1 (
K.boxK t0 h fun t2 h3 =>
K.allocK (K.zN ctx 49) (K.zT ctx 49) h3 fun t4 h5 =>
K.idxAK 10 1 t2 (.int .i64 (.ofNat 0)) fun t6 =>
K.ldK ctx 37 t6 h5 fun t7 =>
K.idxAK 10 1 t2 (.int .i64 (.ofNat 1)) fun t8 =>
K.ldK ctx 37 t8 h5 fun t9 =>
K.idxAK 10 1 t2 (.int .i64 (.ofNat 2)) fun t10 =>
K.ldK ctx 37 t10 h5 fun t11 =>
K.idxAK 10 1 t2 (.int .i64 (.ofNat 3)) fun t12 =>
K.ldK ctx 37 t12 h5 fun t13 =>
K.slcK ctx 112 t2 (some (.int .i64 (.ofNat 4))) (some (.int .i64 (.ofNat 8))) none h5 fun t14 =>
K.slowK ctx run (K.opAt Go.Proofs.Tryz.f64 1 9) [11] [t14] h5 fun t15 h16 =>
K.ldsK ctx 47 4 t15 h16 fun t17 =>
K.idxAK 10 1 t2 (.int .i64 (.ofNat 8)) fun t18 =>
K.ldK ctx 37 t18 h16 fun t19 =>
K.idxAK 10 1 t2 (.int .i64 (.ofNat 9)) fun t20 =>
K.ldK ctx 37 t20 h16 fun t21 =>
K.bldSK ctx 49 [(0, t7), (1, t9), (2, t11), (3, t13), (4, t17), (5, t19), (6, t21)] fun t22 =>
K.stsK 10 t4 t22 h16 fun h23 =>
K.unmarkK [] h23 fun h24 => K.asPtr t4 fun n25 n26 => K.loads h24 n25 n26 10 fun t27 => .ok (.agg t27) h24)
end YtbigljebnajniaaGreatDoorCnM
