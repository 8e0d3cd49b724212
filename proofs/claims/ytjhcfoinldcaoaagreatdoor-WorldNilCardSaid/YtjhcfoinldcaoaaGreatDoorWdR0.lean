/- PRINTED BY Gen2.lean (own): functions as plain texts, part 0. -/
import Derived.Test.YtjhcfoinldcaoaaGreatDoorWdCtx
namespace YtjhcfoinldcaoaaGreatDoorWdM
open Go Am
set_option maxRecDepth 100000
noncomputable def r5 : K.KRun → List AV → H → K.KR := fun run args h => K.uncons args fun t0 l1 => K.unnil l1 (
K.eqK (K.binV ctx .eql 46 true t0 .nilPtr) t0 .nilPtr fun t2 =>
K.iteV t2 (
K.unmarkK [] h fun h3 => .ok (.tup [.nilPtr, (.int .i64 (.ofNat 2))]) h3) (
K.callFK run 25 [t0] h fun t4 h5 =>
K.callFK run 26 [t4] h5 fun t6 h7 =>
K.extK t6 0 fun t8 =>
K.extK t6 1 fun t9 =>
K.allocK (K.zN ctx 53) (K.zT ctx 53) h7 fun t10 h11 =>
K.stsK 3 t10 t8 h11 fun h12 =>
K.notK t9 fun t13 =>
K.iteV t13 (
K.unmarkK [] h12 fun h14 => .ok (.tup [.nilPtr, (.int .i64 (.ofNat 4))]) h14) (
K.letK (fun (l15 : List AV) (m16 : List Nat) (h17 : H) => K.uncons l15 fun t19 l20 => K.uncons l20 fun t21 l22 => K.unnil l22 (
K.fldK 0 t21 fun t23 =>
K.ldK ctx 3 t23 h17 fun t24 =>
K.callFK run 28 [t24] h17 fun t25 h26 =>
K.extK t25 0 fun t27 =>
K.extK t25 1 fun t28 =>
K.neK (K.binV ctx .neq 29 true t28 (.int .i64 (.ofNat 0))) t28 (.int .i64 (.ofNat 0)) fun t29 =>
K.iteV t29 (
K.unmarkK m16 h26 fun h30 => .ok (.tup [.nilPtr, t28]) h30) (
K.fldK 0 t21 fun t31 =>
K.ldK ctx 3 t31 h26 fun t32 =>
K.mslK ctx 89 13 t32 t32 h26 fun t33 h34 =>
K.slowK ctx run (K.opAt Go.Proofs.Tryz.f5 16 4) [] [] h34 fun t35 h36 =>
K.bldSK ctx 81 [(0, t19), (2, t33), (4, t35)] fun t37 =>
K.boxK t37 h36 fun t38 h39 =>
K.letK (fun (l40 : List AV) (m41 : List Nat) (h42 : H) => K.uncons l40 fun t44 l45 => K.unnil l45 (
K.unmarkK m41 h42 fun h46 => .ok (.tup [t44, (.int .i64 (.ofNat 0))]) h46)) fun j43 =>
K.fldK 0 t21 fun t47 =>
K.ldK ctx 3 t47 h39 fun t48 =>
K.loopV (nat_lit 1000000) (fun s52 l49 m50 h51 => K.uncons l49 fun t53 l54 => K.uncons l54 fun t55 l56 => K.uncons l56 fun t57 l58 => K.uncons l58 fun t59 l60 => K.uncons l60 fun t61 l62 => K.uncons l62 fun t63 l64 => K.unnil l64 (
K.ltK (K.binV ctx .lss 3 false t63 t61) t63 t61 fun t65 =>
K.iteV t65 (
K.ldsK ctx 53 3 t55 h51 fun t66 =>
K.callFK run 29 [t53, t66, t57, t63] h51 fun t67 h68 =>
K.extK t67 0 fun t69 =>
K.extK t67 1 fun t70 =>
K.neK (K.binV ctx .neq 29 true t70 (.int .i64 (.ofNat 0))) t70 (.int .i64 (.ofNat 0)) fun t71 =>
K.iteV t71 (
K.unmarkK m50 h68 fun h72 => .ok (.tup [.nilPtr, t70]) h72) (
K.nilK t59 fun t73 =>
K.fldK 1 t73 fun t74 =>
K.ldK ctx 79 t74 h68 fun t75 =>
K.bslK ctx 82 1 1 [(0, t69)] h68 fun t76 h77 =>
K.appK ctx 82 1 t75 t76 h77 fun t78 h79 =>
K.nilK t59 fun t80 =>
K.fldK 1 t80 fun t81 =>
K.stK t81 t78 h79 fun h82 =>
K.addK (K.binV ctx .add 3 true t63 (.int .i64 (.ofNat 1))) t63 (.int .i64 (.ofNat 1)) fun t83 =>
s52 [t53, t55, t57, t59, t61, t83] m50 h82)) (
j43 [t59] m50 h51))) [t19, t21, t27, t38, t48, (.int .i64 (.ofNat 0))] m16 h39))) fun j18 =>
K.fldK 0 t10 fun t84 =>
K.ldK ctx 3 t84 h12 fun t85 =>
K.loopV (nat_lit 1000000) (fun s89 l86 m87 h88 => K.uncons l86 fun t90 l91 => K.uncons l91 fun t92 l93 => K.uncons l93 fun t94 l95 => K.uncons l95 fun t96 l97 => K.uncons l97 fun t98 l99 => K.unnil l99 (
K.ltK (K.binV ctx .lss 3 false t98 t96) t98 t96 fun t100 =>
K.iteV t100 (
K.ldsK ctx 53 3 t94 h88 fun t101 =>
K.callFK run 27 [t101, t98] h88 fun t102 h103 =>
K.idxSK 1 t92 t102 fun t104 =>
K.ldK ctx 23 t104 h103 fun t105 =>
K.neK (K.binV ctx .neq 23 true t105 (.int .u64 (.ofNat 0))) t105 (.int .u64 (.ofNat 0)) fun t106 =>
K.iteV t106 (
K.unmarkK m87 h103 fun h107 => .ok (.tup [.nilPtr, (.int .i64 (.ofNat 3))]) h107) (
K.addK (K.binV ctx .add 3 true t98 (.int .i64 (.ofNat 1))) t98 (.int .i64 (.ofNat 1)) fun t108 =>
s89 [t90, t92, t94, t96, t108] m87 h103)) (
j18 [t90, t94] m87 h88))) [t0, t4, t10, t85, (.int .i64 (.ofNat 0))] [] h12)))
noncomputable def r6 : K.KRun → List AV → H → K.KR := fun run args h => K.uncons args fun t0 l1 => K.uncons l1 fun t2 l3 => K.unnil l3 (
K.boxK t2 h fun t4 h5 =>
K.eqK (K.binV ctx .eql 28 true t0 .nilPtr) t0 .nilPtr fun t6 =>
K.iteV t6 (
K.unmarkK [] h5 fun h7 => .ok (.tup [(.int .i64 (.ofNat 0)), (.int .i64 (.ofNat 2))]) h7) (
K.ldsK ctx 27 12 t4 h5 fun t8 =>
K.callFK run 30 [.nilSlice, t8] h5 fun t9 h10 =>
K.extK t9 0 fun t11 =>
K.extK t9 1 fun t12 =>
K.eqK (K.binV ctx .eql 29 true t12 (.int .i64 (.ofNat 1))) t12 (.int .i64 (.ofNat 1)) fun t13 =>
K.iteV t13 (
K.unmarkK [] h10 fun h14 => .ok (.tup [(.int .i64 (.ofNat 0)), t12]) h14) (
K.nilK t0 fun t15 =>
K.fldK 3 t15 fun t16 =>
K.ldK ctx 77 t16 h10 fun t17 =>
K.lenVK t17 fun t18 =>
K.geK (K.binV ctx .geq 3 true t18 (.int .i64 (.ofNat 16))) t18 (.int .i64 (.ofNat 16)) fun t19 =>
K.iteV t19 (
K.unmarkK [] h10 fun h20 => .ok (.tup [(.int .i64 (.ofNat 0)), (.int .i64 (.ofNat 5))]) h20) (
K.nilK t0 fun t21 =>
K.fldK 5 t21 fun t22 =>
K.ldK ctx 3 t22 h10 fun t23 =>
K.addK (K.binV ctx .add 3 true t23 (.int .i64 (.ofNat 1))) t23 (.int .i64 (.ofNat 1)) fun t24 =>
K.nilK t0 fun t25 =>
K.fldK 5 t25 fun t26 =>
K.stK t26 t24 h10 fun h27 =>
K.nilK t0 fun t28 =>
K.fldK 3 t28 fun t29 =>
K.ldK ctx 77 t29 h27 fun t30 =>
K.nilK t0 fun t31 =>
K.fldK 5 t31 fun t32 =>
K.ldK ctx 3 t32 h27 fun t33 =>
K.ldsK ctx 27 12 t4 h27 fun t34 =>
K.bldSK ctx 89 [(0, t33), (1, t34)] fun t35 =>
K.bslK ctx 89 13 1 [(0, t35)] h27 fun t36 h37 =>
K.appK ctx 89 13 t30 t36 h37 fun t38 h39 =>
K.nilK t0 fun t40 =>
K.fldK 3 t40 fun t41 =>
K.stK t41 t38 h39 fun h42 =>
K.nilK t0 fun t43 =>
K.fldK 5 t43 fun t44 =>
K.ldK ctx 3 t44 h42 fun t45 =>
K.unmarkK [] h42 fun h46 => .ok (.tup [t45, (.int .i64 (.ofNat 0))]) h46))))
noncomputable def r7 : K.KRun → List AV → H → K.KR := fun run args h => K.uncons args fun t0 l1 => K.uncons l1 fun t2 l3 => K.unnil l3 (
K.eqK (K.binV ctx .eql 28 true t0 .nilPtr) t0 .nilPtr fun t4 =>
K.iteV t4 (
K.unmarkK [] h fun h5 => .ok (.tup [(.int .u8 (.ofNat 0)), (.int .i64 (.ofNat 2))]) h5) (
K.letK (fun (l6 : List AV) (m7 : List Nat) (h8 : H) => K.uncons l6 fun t10 l11 => K.uncons l11 fun t12 l13 => K.uncons l13 fun t14 l15 => K.unnil l15 (
K.iteV t14 (
K.unmarkK m7 h8 fun h16 => .ok (.tup [(.int .u8 (.ofNat 0)), (.int .i64 (.ofNat 1))]) h16) (
K.letK (fun (l17 : List AV) (m18 : List Nat) (h19 : H) => K.uncons l17 fun t21 l22 => K.uncons l22 fun t23 l24 => K.unnil l24 (
K.nilK t21 fun t25 =>
K.fldK 1 t25 fun t26 =>
K.ldK ctx 79 t26 h19 fun t27 =>
K.idxSK 1 t27 t23 fun t28 =>
K.ldK ctx 82 t28 h19 fun t29 =>
K.callFK run 32 [t29] h19 fun t30 h31 =>
K.extK t30 0 fun t32 =>
K.extK t30 1 fun t33 =>
K.letK (fun (l34 : List AV) (m35 : List Nat) (h36 : H) => K.uncons l34 fun t38 l39 => K.uncons l39 fun t40 l41 => K.unnil l41 (
K.unmarkK m35 h36 fun h42 => .ok (.tup [t38, t40]) h42)) fun j37 =>
K.eqK (K.binV ctx .eql 34 true t32 (.int .u8 (.ofNat 10))) t32 (.int .u8 (.ofNat 10)) fun t43 =>
K.iteV t43 (
K.letK (fun (l44 : List AV) (m45 : List Nat) (h46 : H) => K.uncons l44 fun t48 l49 => K.uncons l49 fun t50 l51 => K.uncons l51 fun t52 l53 => K.uncons l53 fun t54 l55 => K.unnil l55 (
K.nilK t48 fun t56 =>
K.fldK 2 t56 fun t57 =>
K.ldK ctx 77 t57 h46 fun t58 =>
K.bldSK ctx 89 [] fun t59 =>
K.idxSK 13 t58 t50 fun t60 =>
K.stsK 13 t60 t59 h46 fun h61 =>
j37 [t52, t54] m45 h61)) fun j47 =>
K.nilK t21 fun t62 =>
K.fldK 1 t62 fun t63 =>
K.ldK ctx 79 t63 h31 fun t64 =>
K.idxSK 1 t64 t23 fun t65 =>
K.ldK ctx 82 t65 h31 fun t66 =>
K.callFK run 33 [t66] h31 fun t67 h68 =>
K.extK t67 0 fun t69 =>
K.extK t67 1 fun t70 =>
K.allocK (K.zN ctx 41) (K.zT ctx 41) h68 fun t71 h72 =>
K.stsK 7 t71 t69 h72 fun h73 =>
K.iteV t70 (
K.nilK t21 fun t74 =>
K.fldK 4 t74 fun t75 =>
K.ldK ctx 78 t75 h73 fun t76 =>
K.nilK t21 fun t77 =>
K.fldK 2 t77 fun t78 =>
K.ldK ctx 77 t78 h73 fun t79 =>
K.idxSK 13 t79 t23 fun t80 =>
K.fldK 0 t80 fun t81 =>
K.ldK ctx 3 t81 h73 fun t82 =>
K.ldsK ctx 41 7 t71 h73 fun t83 =>
K.slowK ctx run (K.opAt Go.Proofs.Tryz.f7 14 13) [67, 75, 76] [t76, t82, t83] h73 fun t84 h85 =>
j47 [t21, t23, t32, t33] m18 h85) (
j47 [t21, t23, t32, t33] m18 h73)) (
j37 [t32, t33] m18 h31))) fun j20 =>
K.nilK t10 fun t86 =>
K.fldK 2 t86 fun t87 =>
K.ldK ctx 77 t87 h8 fun t88 =>
K.idxSK 13 t88 t12 fun t89 =>
K.fldK 0 t89 fun t90 =>
K.ldK ctx 3 t90 h8 fun t91 =>
K.eqK (K.binV ctx .eql 3 true t91 (.int .i64 (.ofNat 0))) t91 (.int .i64 (.ofNat 0)) fun t92 =>
K.iteV t92 (
K.callFK run 31 [t10, t12] h8 fun t93 h94 =>
K.neK (K.binV ctx .neq 29 true t93 (.int .i64 (.ofNat 0))) t93 (.int .i64 (.ofNat 0)) fun t95 =>
K.iteV t95 (
K.unmarkK m7 h94 fun h96 => .ok (.tup [(.int .u8 (.ofNat 0)), t93]) h96) (
j20 [t10, t12] m7 h94)) (
j20 [t10, t12] m7 h8)))) fun j9 =>
K.ltK (K.binV ctx .lss 3 true t2 (.int .i64 (.ofNat 0))) t2 (.int .i64 (.ofNat 0)) fun t97 =>
K.iteV t97 (
j9 [t0, t2, t97] [] h) (
K.nilK t0 fun t98 =>
K.fldK 1 t98 fun t99 =>
K.ldK ctx 79 t99 h fun t100 =>
K.lenVK t100 fun t101 =>
K.geK (K.binV ctx .geq 3 false t2 t101) t2 t101 fun t102 =>
j9 [t0, t2, t102] [] h)))
noncomputable def r9 : K.KRun → List AV → H → K.KR := fun run args h => K.uncons args fun t0 l1 => K.uncons l1 fun t2 l3 => K.uncons l3 fun t4 l5 => K.uncons l5 fun t6 l7 => K.unnil l7 (
K.boxK t2 h fun t8 h9 =>
K.allocK (K.zN ctx 39) (K.zT ctx 39) h9 fun t10 h11 =>
K.eqK (K.binV ctx .eql 28 true t0 .nilPtr) t0 .nilPtr fun t12 =>
K.iteV t12 (
K.bldSK ctx 39 [] fun t13 =>
K.stsK 4 t10 t13 h11 fun h14 =>
K.unmarkK [] h14 fun h15 => K.asPtr t10 fun n16 n17 => K.loads h15 n16 n17 4 fun t18 => .ok (.tup [(.int .u8 (.ofNat 0)), (.agg t18), (.int .i64 (.ofNat 2))]) h15) (
K.letK (fun (l19 : List AV) (m20 : List Nat) (h21 : H) => K.uncons l19 fun t23 l24 => K.uncons l24 fun t25 l26 => K.uncons l26 fun t27 l28 => K.uncons l28 fun t29 l30 => K.uncons l30 fun t31 l32 => K.uncons l32 fun t33 l34 => K.unnil l34 (
K.iteV t33 (
K.bldSK ctx 39 [] fun t35 =>
K.stsK 4 t31 t35 h21 fun h36 =>
K.unmarkK m20 h36 fun h37 => K.asPtr t31 fun n38 n39 => K.loads h37 n38 n39 4 fun t40 => .ok (.tup [(.int .u8 (.ofNat 0)), (.agg t40), (.int .i64 (.ofNat 1))]) h37) (
K.callFK run 34 [t23, (.func (.func 36) [] [t29])] h21 fun t41 h42 =>
K.iteV t41 (
K.bldSK ctx 39 [] fun t43 =>
K.stsK 4 t31 t43 h42 fun h44 =>
K.unmarkK m20 h44 fun h45 => K.asPtr t31 fun n46 n47 => K.loads h45 n46 n47 4 fun t48 => .ok (.tup [(.int .u8 (.ofNat 0)), (.agg t48), (.int .i64 (.ofNat 21))]) h45) (
K.nilK t23 fun t49 =>
K.fldK 0 t49 fun t50 =>
K.ldK ctx 46 t50 h42 fun t51 =>
K.ldK ctx 3 t29 h42 fun t52 =>
K.callFK run 25 [t51] h42 fun t53 h54 =>
K.ldK ctx 3 t29 h54 fun t55 =>
K.req (AV.same t52 t55) (
K.callFK run 38 [t53] h54 fun t56 h57 =>
K.ldK ctx 3 t29 h57 fun t58 =>
K.req (AV.same t52 t58) (
K.callFK run 37 [t56, t52, t25, t27] h57 fun t59 h60 =>
K.extK t59 0 fun t61 =>
K.extK t59 1 fun t62 =>
K.extK t59 2 fun t63 =>
K.stsK 4 t31 t62 h60 fun h64 =>
K.unmarkK m20 h64 fun h65 => K.asPtr t31 fun n66 n67 => K.loads h65 n66 n67 4 fun t68 => .ok (.tup [t61, (.agg t68), t63]) h65)))))) fun j22 =>
K.ldK ctx 3 t8 h11 fun t69 =>
K.ltK (K.binV ctx .lss 3 true t69 (.int .i64 (.ofNat 0))) t69 (.int .i64 (.ofNat 0)) fun t70 =>
K.iteV t70 (
j22 [t0, t4, t6, t8, t10, t70] [] h11) (
K.ldK ctx 3 t8 h11 fun t71 =>
K.geK (K.binV ctx .geq 3 true t71 (.int .i64 (.ofNat 4))) t71 (.int .i64 (.ofNat 4)) fun t72 =>
j22 [t0, t4, t6, t8, t10, t72] [] h11)))
noncomputable def r10 : K.KRun → List AV → H → K.KR := fun run args h => K.uncons args fun t0 l1 => K.unnil l1 (
K.ltK (K.binV ctx .lss 3 true t0 (.int .i64 (.ofNat 8))) t0 (.int .i64 (.ofNat 8)) fun t2 =>
K.letK (fun (t3 : AV) (h4 : H) => K.letK (fun (t6 : AV) (h7 : H) => K.pickK t2 (.bool true) t6 fun t9 =>
K.letK (fun (t10 : AV) (h11 : H) => K.letK (fun (t13 : AV) (h14 : H) => K.letK (fun (t16 : AV) (h17 : H) => K.pickK t9 (.bool true) t16 fun t19 =>
K.iteV t19 (
K.unmarkK [] h17 fun h20 => .ok (.tup [.nilPtr, (.int .i64 (.ofNat 1))]) h20) (
K.mslK ctx 119 6 t0 t0 h17 fun t21 h22 =>
K.bldSK ctx 101 [(0, t21)] fun t23 =>
K.boxK t23 h22 fun t24 h25 =>
K.unmarkK [] h25 fun h26 => .ok (.tup [t24, (.int .i64 (.ofNat 0))]) h26)) fun j18 =>
K.guK false t9 (K.neK (K.binV ctx .neq 3 true t13 (.int .i64 (.ofNat 0))) t13 (.int .i64 (.ofNat 0)) fun t27 =>
j18 t27 h14) (j18 (.tup []) h14)) fun j15 =>
K.guK false t9 (K.oK (K.binV ctx .rem 3 true t10 (.int .i64 (.ofNat 8))) fun t28 =>
j15 t28 h11) (j15 (.tup []) h11)) fun j12 =>
K.guK false t9 (j12 t0 h7) (j12 (.tup []) h7)) fun j8 =>
K.guK false t2 (K.gtK (K.binV ctx .gtr 3 true t3 (.int .i64 (.ofNat 65536))) t3 (.int .i64 (.ofNat 65536)) fun t29 =>
j8 t29 h4) (j8 (.tup []) h4)) fun j5 =>
K.guK false t2 (j5 t0 h) (j5 (.tup []) h))
noncomputable def r12 : K.KRun → List AV → H → K.KR := fun run args h => K.uncons args fun t0 l1 => K.unnil l1 (
K.boxK t0 h fun t2 h3 =>
K.ldsK ctx 53 3 t2 h3 fun t4 =>
K.callFK run 41 [t4] h3 fun t5 h6 =>
K.notK t5 fun t7 =>
K.iteV t7 (
K.unmarkK [] h6 fun h8 => .ok .nilSlice h8) (
K.ldsK ctx 53 3 t2 h6 fun t9 =>
K.callFK run 42 [t9] h6 fun t10 h11 =>
K.mslK ctx 23 1 t10 t10 h11 fun t12 h13 =>
K.fldK 0 t2 fun t14 =>
K.ldK ctx 3 t14 h13 fun t15 =>
K.rK (convA ctx 3 23 t15 h13) fun t16 h17 =>
K.fldK 1 t2 fun t18 =>
K.ldK ctx 3 t18 h17 fun t19 =>
K.rK (convA ctx 3 23 t19 h17) fun t20 h21 =>
K.fldK 2 t2 fun t22 =>
K.ldK ctx 3 t22 h21 fun t23 =>
K.rK (convA ctx 3 23 t23 h21) fun t24 h25 =>
K.bslK ctx 23 1 4 [(0, (.int .u64 (.ofNat 32762617960297063))), (1, t16), (2, t20), (3, t24)] h25 fun t26 h27 =>
K.slowK ctx run (K.opAt Go.Proofs.Tryz.f12 4 11) [10, 20] [t12, t26] h27 fun t28 h29 =>
K.ldsK ctx 53 3 t2 h29 fun t30 =>
K.callFK run 43 [t30] h29 fun t31 h32 =>
K.idxSK 1 t12 t31 fun t33 =>
K.stK t33 (.int .u64 (.ofNat 3)) h32 fun h34 =>
K.ldsK ctx 53 3 t2 h34 fun t35 =>
K.callFK run 44 [t35] h34 fun t36 h37 =>
K.idxSK 1 t12 t36 fun t38 =>
K.stK t38 (.int .u64 (.ofNat 1)) h37 fun h39 =>
K.ldsK ctx 53 3 t2 h39 fun t40 =>
K.callFK run 45 [t40, (.int .i64 (.ofNat 1))] h39 fun t41 h42 =>
K.slcK ctx 50 t12 (some t41) none none h42 fun t43 =>
K.bslK ctx 23 1 2 [(0, (.int .u64 (.ofNat 2))), (1, (.int .u64 (.ofNat 1)))] h42 fun t44 h45 =>
K.slowK ctx run (K.opAt Go.Proofs.Tryz.f12 7 5) [33, 34] [t43, t44] h45 fun t46 h47 =>
K.unmarkK [] h47 fun h48 => .ok t12 h48))
noncomputable def r13 : K.KRun → List AV → H → K.KR := fun run args h => K.uncons args fun t0 l1 => K.uncons l1 fun t2 l3 => K.unnil l3 (
K.allocK (K.zN ctx 53) (K.zT ctx 53) h fun t4 h5 =>
K.callFK run 46 [t2] h5 fun t6 h7 =>
K.allocK (K.zN ctx 53) (K.zT ctx 53) h7 fun t8 h9 =>
K.stsK 3 t8 t6 h9 fun h10 =>
K.rK (convA ctx 5 3 t0 h10) fun t11 h12 =>
K.oK (K.binV ctx .rem 3 true t11 (.int .i64 (.ofNat 4))) fun t13 =>
K.addK (K.binV ctx .add 3 true (.int .i64 (.ofNat 1)) t13) (.int .i64 (.ofNat 1)) t13 fun t14 =>
K.fldK 0 t8 fun t15 =>
K.stK t15 t14 h12 fun h16 =>
K.ldsK ctx 53 3 t8 h16 fun t17 =>
K.stsK 3 t4 t17 h16 fun h18 =>
K.unmarkK [] h18 fun h19 => K.asPtr t4 fun n20 n21 => K.loads h19 n20 n21 3 fun t22 => .ok (.agg t22) h19)
noncomputable def r14 : K.KRun → List AV → H → K.KR := fun run args h => K.uncons args fun t0 l1 => K.unnil l1 (
K.eqK (K.binV ctx .eql 28 true t0 .nilPtr) t0 .nilPtr fun t2 =>
K.iteV t2 (
K.unmarkK [] h fun h3 => .ok (.int .i64 (.ofNat 0)) h3) (
K.nilK t0 fun t4 =>
K.fldK 1 t4 fun t5 =>
K.ldK ctx 79 t5 h fun t6 =>
K.lenVK t6 fun t7 =>
K.unmarkK [] h fun h8 => .ok t7 h8))
noncomputable def r15 : K.KRun → List AV → H → K.KR := fun run args h => K.uncons args fun t0 l1 => K.unnil l1 (
K.eqK (K.binV ctx .eql 28 true t0 .nilPtr) t0 .nilPtr fun t2 =>
K.iteV t2 (
K.unmarkK [] h fun h3 => .ok (.int .i64 (.ofNat 0)) h3) (
K.nilK t0 fun t4 =>
K.fldK 3 t4 fun t5 =>
K.ldK ctx 77 t5 h fun t6 =>
K.lenVK t6 fun t7 =>
K.unmarkK [] h fun h8 => .ok t7 h8))
noncomputable def r16 : K.KRun → List AV → H → K.KR := fun run args h => K.uncons args fun t0 l1 => K.uncons l1 fun t2 l3 => K.unnil l3 (
K.eqK (K.binV ctx .eql 28 true t0 .nilPtr) t0 .nilPtr fun t4 =>
K.letK (fun (t5 : AV) (h6 : H) => K.letK (fun (t8 : AV) (h9 : H) => K.pickK t4 (.bool true) t8 fun t11 =>
K.letK (fun (t12 : AV) (h13 : H) => K.letK (fun (t15 : AV) (h16 : H) => K.letK (fun (t18 : AV) (h19 : H) => K.letK (fun (t21 : AV) (h22 : H) => K.letK (fun (t24 : AV) (h25 : H) => K.letK (fun (t27 : AV) (h28 : H) => K.letK (fun (t30 : AV) (h31 : H) => K.pickK t11 (.bool true) t30 fun t33 =>
K.iteV t33 (
K.unmarkK [] h31 fun h34 => .ok (.int .i64 (.ofNat 0)) h34) (
K.nilK t0 fun t35 =>
K.fldK 2 t35 fun t36 =>
K.ldK ctx 77 t36 h31 fun t37 =>
K.idxSK 13 t37 t2 fun t38 =>
K.fldK 0 t38 fun t39 =>
K.ldK ctx 3 t39 h31 fun t40 =>
K.unmarkK [] h31 fun h41 => .ok t40 h41)) fun j32 =>
K.guK false t11 (K.geK (K.binV ctx .geq 3 false t12 t27) t12 t27 fun t42 =>
j32 t42 h28) (j32 (.tup []) h28)) fun j29 =>
K.guK false t11 (K.lenVK t24 fun t43 =>
j29 t43 h25) (j29 (.tup []) h25)) fun j26 =>
K.guK false t11 (K.ldK ctx 77 t21 h22 fun t44 =>
j26 t44 h22) (j26 (.tup []) h22)) fun j23 =>
K.guK false t11 (K.fldK 2 t18 fun t45 =>
j23 t45 h19) (j23 (.tup []) h19)) fun j20 =>
K.guK false t11 (K.nilK t15 fun t46 =>
j20 t46 h16) (j20 (.tup []) h16)) fun j17 =>
K.guK false t11 (j17 t0 h13) (j17 (.tup []) h13)) fun j14 =>
K.guK false t11 (j14 t2 h9) (j14 (.tup []) h9)) fun j10 =>
K.guK false t4 (K.ltK (K.binV ctx .lss 3 true t5 (.int .i64 (.ofNat 0))) t5 (.int .i64 (.ofNat 0)) fun t47 =>
j10 t47 h6) (j10 (.tup []) h6)) fun j7 =>
K.guK false t4 (j7 t2 h) (j7 (.tup []) h))
noncomputable def r18 : K.KRun → List AV → H → K.KR := fun run args h => K.uncons args fun t0 l1 => K.unnil l1 (
K.boxK t0 h fun t2 h3 =>
K.ldsK ctx 53 3 t2 h3 fun t4 =>
K.callFK run 41 [t4] h3 fun t5 h6 =>
K.notK t5 fun t7 =>
K.iteV t7 (
K.unmarkK [] h6 fun h8 => .ok (.tup [.nilPtr, (.int .i64 (.ofNat 1))]) h8) (
K.ldsK ctx 53 3 t2 h6 fun t9 =>
K.callFK run 42 [t9] h6 fun t10 h11 =>
K.callFK run 10 [t10] h11 fun t12 h13 =>
K.extK t12 0 fun t14 =>
K.extK t12 1 fun t15 =>
K.letK (fun (l16 : List AV) (m17 : List Nat) (h18 : H) => K.uncons l16 fun t20 l21 => K.uncons l21 fun t22 l23 => K.unnil l23 (
K.neK (K.binV ctx .neq 29 true t22 (.int .i64 (.ofNat 0))) t22 (.int .i64 (.ofNat 0)) fun t24 =>
K.iteV t24 (
K.unmarkK m17 h18 fun h25 => .ok (.tup [.nilPtr, t22]) h25) (
K.callFK run 5 [t20] h18 fun t26 h27 =>
K.extK t26 0 fun t28 =>
K.extK t26 1 fun t29 =>
K.neK (K.binV ctx .neq 29 true t29 (.int .i64 (.ofNat 0))) t29 (.int .i64 (.ofNat 0)) fun t30 =>
K.iteV t30 (
K.unmarkK m17 h27 fun h31 => .ok (.tup [.nilPtr, t29]) h31) (
K.bldSK ctx 111 [(0, t20), (1, t28)] fun t32 =>
K.boxK t32 h27 fun t33 h34 =>
K.unmarkK m17 h34 fun h35 => .ok (.tup [t33, (.int .i64 (.ofNat 0))]) h35)))) fun j19 =>
K.eqK (K.binV ctx .eql 29 true t15 (.int .i64 (.ofNat 0))) t15 (.int .i64 (.ofNat 0)) fun t36 =>
K.iteV t36 (
K.ldsK ctx 53 3 t2 h13 fun t37 =>
K.callFK run 48 [t14, t37] h13 fun t38 h39 =>
j19 [t14, t38] [] h39) (
j19 [t14, t15] [] h13)))
noncomputable def r19 : K.KRun → List AV → H → K.KR := fun run args h => K.uncons args fun t0 l1 => K.uncons l1 fun t2 l3 => K.unnil l3 (
K.boxK t2 h fun t4 h5 =>
K.allocK (K.zN ctx 67) (K.zT ctx 67) h5 fun t6 h7 =>
K.eqK (K.binV ctx .eql 63 true t0 .nilPtr) t0 .nilPtr fun t8 =>
K.iteV t8 (
K.bldSK ctx 67 [(0, (.int .i64 (.ofNat 2)))] fun t9 =>
K.stsK 14 t6 t9 h7 fun h10 =>
K.unmarkK [] h10 fun h11 => K.asPtr t6 fun n12 n13 => K.loads h11 n12 n13 14 fun t14 => .ok (.agg t14) h11) (
K.letK (fun (l15 : List AV) (m16 : List Nat) (h17 : H) => K.uncons l15 fun t19 l20 => K.uncons l20 fun t21 l22 => K.uncons l22 fun t23 l24 => K.uncons l24 fun t25 l26 => K.unnil l26 (
K.iteV t25 (
K.bldSK ctx 67 [(0, (.int .i64 (.ofNat 1)))] fun t27 =>
K.stsK 14 t23 t27 h17 fun h28 =>
K.unmarkK m16 h28 fun h29 => K.asPtr t23 fun n30 n31 => K.loads h29 n30 n31 14 fun t32 => .ok (.agg t32) h29) (
K.fldK 0 t21 fun t33 =>
K.ldK ctx 59 t33 h17 fun t34 =>
K.callFK run 49 [t19] h17 fun t35 h36 =>
K.ldK ctx 59 t33 h36 fun t37 =>
K.req (AV.same t34 t37) (
K.slowK ctx run (K.opAt Go.Proofs.Tryz.f19 6 4) [21, 23] [t35, t34] h36 fun t38 h39 =>
K.extK t38 0 fun t40 =>
K.extK t38 1 fun t41 =>
K.notK t41 fun t42 =>
K.iteV t42 (
K.bldSK ctx 67 [(0, (.int .i64 (.ofNat 3)))] fun t43 =>
K.stsK 14 t23 t43 h39 fun h44 =>
K.unmarkK m16 h44 fun h45 => K.asPtr t23 fun n46 n47 => K.loads h45 n46 n47 14 fun t48 => .ok (.agg t48) h45) (
K.ldsK ctx 62 15 t21 h39 fun t49 =>
K.callVK run t40 [t49] h39 fun t50 h51 =>
K.stsK 14 t23 t50 h51 fun h52 =>
K.unmarkK m16 h52 fun h53 => K.asPtr t23 fun n54 n55 => K.loads h53 n54 n55 14 fun t56 => .ok (.agg t56) h53))))) fun j18 =>
K.fldK 0 t4 fun t57 =>
K.ldK ctx 59 t57 h7 fun t58 =>
K.ltK (K.binV ctx .lss 59 true t58 (.int .u8 (.ofNat 1))) t58 (.int .u8 (.ofNat 1)) fun t59 =>
K.iteV t59 (
j18 [t0, t4, t6, t59] [] h7) (
K.fldK 0 t4 fun t60 =>
K.ldK ctx 59 t60 h7 fun t61 =>
K.gtK (K.binV ctx .gtr 59 true t61 (.int .u8 (.ofNat 8))) t61 (.int .u8 (.ofNat 8)) fun t62 =>
j18 [t0, t4, t6, t62] [] h7)))
noncomputable def r20 : K.KRun → List AV → H → K.KR := fun run args h => K.uncons args fun t0 l1 => K.unnil l1 (
K.neK (K.binV ctx .neq 63 true t0 .nilPtr) t0 .nilPtr fun t2 =>
K.letK (fun (t3 : AV) (h4 : H) => K.letK (fun (t6 : AV) (h7 : H) => K.letK (fun (t9 : AV) (h10 : H) => K.letK (fun (t12 : AV) (h13 : H) => K.letK (fun (t15 : AV) (h16 : H) => K.pickK t2 t15 (.bool false) fun t18 =>
K.unmarkK [] h16 fun h19 => .ok t18 h19) fun j17 =>
K.guK true t2 (K.neK (K.binV ctx .neq 28 true t12 .nilPtr) t12 .nilPtr fun t20 =>
j17 t20 h13) (j17 (.tup []) h13)) fun j14 =>
K.guK true t2 (K.ldK ctx 28 t9 h10 fun t21 =>
j14 t21 h10) (j14 (.tup []) h10)) fun j11 =>
K.guK true t2 (K.fldK 1 t6 fun t22 =>
j11 t22 h7) (j11 (.tup []) h7)) fun j8 =>
K.guK true t2 (K.nilK t3 fun t23 =>
j8 t23 h4) (j8 (.tup []) h4)) fun j5 =>
K.guK true t2 (j5 t0 h) (j5 (.tup []) h))
noncomputable def r21 : K.KRun → List AV → H → K.KR := fun run args h => K.uncons args fun t0 l1 => K.uncons l1 fun t2 l3 => K.unnil l3 (
K.callFK run 20 [t0] h fun t4 h5 =>
K.notK t4 fun t6 =>
K.iteV t6 (
K.unmarkK [] h5 fun h7 => .ok (.int .i64 (.ofNat 0)) h7) (
K.nilK t0 fun t8 =>
K.fldK 1 t8 fun t9 =>
K.ldK ctx 28 t9 h5 fun t10 =>
K.callFK run 16 [t10, t2] h5 fun t11 h12 =>
K.unmarkK [] h12 fun h13 => .ok t11 h13))
noncomputable def r22 : K.KRun → List AV → H → K.KR := fun run args h => K.uncons args fun t0 l1 => K.unnil l1 (
K.eqK (K.binV ctx .eql 63 true t0 .nilPtr) t0 .nilPtr fun t2 =>
K.iteV t2 (
K.unmarkK [] h fun h3 => .ok .nilSlice h3) (
K.nilK t0 fun t4 =>
K.fldK 0 t4 fun t5 =>
K.ldK ctx 46 t5 h fun t6 =>
K.callFK run 50 [t6] h fun t7 h8 =>
K.unmarkK [] h8 fun h9 => .ok t7 h9))
noncomputable def r23 : K.KRun → List AV → H → K.KR := fun run args h => K.uncons args fun t0 l1 => K.unnil l1 (
K.eqK (K.binV ctx .eql 63 true t0 .nilPtr) t0 .nilPtr fun t2 =>
K.iteV t2 (
K.unmarkK [] h fun h3 => .ok .nilSlice h3) (
K.nilK t0 fun t4 =>
K.fldK 0 t4 fun t5 =>
K.ldK ctx 46 t5 h fun t6 =>
K.callFK run 25 [t6] h fun t7 h8 =>
K.unmarkK [] h8 fun h9 => .ok t7 h9))
noncomputable def r25 : K.KRun → List AV → H → K.KR := fun run args h => K.uncons args fun t0 l1 => K.unnil l1 (
K.callFK run 51 [t0, (.func (.func 52) [] [])] h fun t2 h3 =>
K.unmarkK [] h3 fun h4 => .ok t2 h4)
noncomputable def r26 : K.KRun → List AV → H → K.KR := fun run args h => K.uncons args fun t0 l1 => K.unnil l1 (
K.allocK (K.zN ctx 53) (K.zT ctx 53) h fun t2 h3 =>
K.lenVK t0 fun t4 =>
K.ltK (K.binV ctx .lss 3 true t4 (.int .i64 (.ofNat 8))) t4 (.int .i64 (.ofNat 8)) fun t5 =>
K.letK (fun (t6 : AV) (h7 : H) => K.letK (fun (t9 : AV) (h10 : H) => K.letK (fun (t12 : AV) (h13 : H) => K.letK (fun (t15 : AV) (h16 : H) => K.pickK t5 (.bool true) t15 fun t18 =>
K.letK (fun (t19 : AV) (h20 : H) => K.letK (fun (t22 : AV) (h23 : H) => K.letK (fun (t25 : AV) (h26 : H) => K.letK (fun (t28 : AV) (h29 : H) => K.letK (fun (t31 : AV) (h32 : H) => K.letK (fun (t34 : AV) (h35 : H) => K.letK (fun (t37 : AV) (h38 : H) => K.letK (fun (t40 : AV) (h41 : H) => K.letK (fun (t43 : AV) (h44 : H) => K.letK (fun (t46 : AV) (h47 : H) => K.letK (fun (t49 : AV) (h50 : H) => K.pickK t18 (.bool true) t49 fun t52 =>
K.iteV t52 (
K.bldSK ctx 53 [] fun t53 =>
K.stsK 3 t2 t53 h50 fun h54 =>
K.unmarkK [] h54 fun h55 => K.asPtr t2 fun n56 n57 => K.loads h55 n56 n57 3 fun t58 => .ok (.tup [(.agg t58), (.bool false)]) h55) (
K.idxSK 1 t0 (.int .i64 (.ofNat 1)) fun t59 =>
K.ldK ctx 23 t59 h50 fun t60 =>
K.rK (convA ctx 23 3 t60 h50) fun t61 h62 =>
K.idxSK 1 t0 (.int .i64 (.ofNat 2)) fun t63 =>
K.ldK ctx 23 t63 h62 fun t64 =>
K.rK (convA ctx 23 3 t64 h62) fun t65 h66 =>
K.idxSK 1 t0 (.int .i64 (.ofNat 3)) fun t67 =>
K.ldK ctx 23 t67 h66 fun t68 =>
K.rK (convA ctx 23 3 t68 h66) fun t69 h70 =>
K.bldSK ctx 53 [(0, t61), (1, t65), (2, t69)] fun t71 =>
K.stsK 3 t2 t71 h70 fun h72 =>
K.ldsK ctx 53 3 t2 h72 fun t73 =>
K.callFK run 41 [t73] h72 fun t74 h75 =>
K.notK t74 fun t76 =>
K.letK (fun (t77 : AV) (h78 : H) => K.letK (fun (t80 : AV) (h81 : H) => K.letK (fun (t83 : AV) (h84 : H) => K.letK (fun (t86 : AV) (h87 : H) => K.letK (fun (t89 : AV) (h90 : H) => K.pickK t76 (.bool true) t89 fun t92 =>
K.iteV t92 (
K.bldSK ctx 53 [] fun t93 =>
K.stsK 3 t2 t93 h90 fun h94 =>
K.unmarkK [] h94 fun h95 => K.asPtr t2 fun n96 n97 => K.loads h95 n96 n97 3 fun t98 => .ok (.tup [(.agg t98), (.bool false)]) h95) (
K.ldsK ctx 53 3 t2 h90 fun t99 =>
K.stsK 3 t2 t99 h90 fun h100 =>
K.unmarkK [] h100 fun h101 => K.asPtr t2 fun n102 n103 => K.loads h101 n102 n103 3 fun t104 => .ok (.tup [(.agg t104), (.bool true)]) h101)) fun j91 =>
K.guK false t76 (K.ltK (K.binV ctx .lss 3 false t80 t86) t80 t86 fun t105 =>
j91 t105 h87) (j91 (.tup []) h87)) fun j88 =>
K.guK false t76 (K.callFK run 42 [t83] h84 fun t106 h107 =>
j88 t106 h107) (j88 (.tup []) h84)) fun j85 =>
K.guK false t76 (K.ldsK ctx 53 3 t2 h81 fun t108 =>
j85 t108 h81) (j85 (.tup []) h81)) fun j82 =>
K.guK false t76 (K.lenVK t77 fun t109 =>
j82 t109 h78) (j82 (.tup []) h78)) fun j79 =>
K.guK false t76 (j79 t0 h75) (j79 (.tup []) h75))) fun j51 =>
K.guK false t18 (K.gtK (K.binV ctx .gtr 23 true t46 (.int .u64 (.ofNat 512))) t46 (.int .u64 (.ofNat 512)) fun t110 =>
j51 t110 h47) (j51 (.tup []) h47)) fun j48 =>
K.guK false t18 (K.slowK ctx run (K.opAt Go.Proofs.Tryz.f26 1 19) [16, 19, 22] [t25, t34, t43] h44 fun t111 h112 =>
j48 t111 h112) (j48 (.tup []) h44)) fun j45 =>
K.guK false t18 (K.ldK ctx 23 t40 h41 fun t113 =>
j45 t113 h41) (j45 (.tup []) h41)) fun j42 =>
K.guK false t18 (K.idxSK 1 t37 (.int .i64 (.ofNat 3)) fun t114 =>
j42 t114 h38) (j42 (.tup []) h38)) fun j39 =>
K.guK false t18 (j39 t0 h35) (j39 (.tup []) h35)) fun j36 =>
K.guK false t18 (K.ldK ctx 23 t31 h32 fun t115 =>
j36 t115 h32) (j36 (.tup []) h32)) fun j33 =>
K.guK false t18 (K.idxSK 1 t28 (.int .i64 (.ofNat 2)) fun t116 =>
j33 t116 h29) (j33 (.tup []) h29)) fun j30 =>
K.guK false t18 (j30 t0 h26) (j30 (.tup []) h26)) fun j27 =>
K.guK false t18 (K.ldK ctx 23 t22 h23 fun t117 =>
j27 t117 h23) (j27 (.tup []) h23)) fun j24 =>
K.guK false t18 (K.idxSK 1 t19 (.int .i64 (.ofNat 1)) fun t118 =>
j24 t118 h20) (j24 (.tup []) h20)) fun j21 =>
K.guK false t18 (j21 t0 h16) (j21 (.tup []) h16)) fun j17 =>
K.guK false t5 (K.neK (K.binV ctx .neq 23 true t12 (.int .u64 (.ofNat 32762617960297063))) t12 (.int .u64 (.ofNat 32762617960297063)) fun t119 =>
j17 t119 h13) (j17 (.tup []) h13)) fun j14 =>
K.guK false t5 (K.ldK ctx 23 t9 h10 fun t120 =>
j14 t120 h10) (j14 (.tup []) h10)) fun j11 =>
K.guK false t5 (K.idxSK 1 t6 (.int .i64 (.ofNat 0)) fun t121 =>
j11 t121 h7) (j11 (.tup []) h7)) fun j8 =>
K.guK false t5 (j8 t0 h3) (j8 (.tup []) h3))
noncomputable def r27 : K.KRun → List AV → H → K.KR := fun run args h => K.uncons args fun t0 l1 => K.uncons l1 fun t2 l3 => K.unnil l3 (
K.boxK t0 h fun t4 h5 =>
K.ldsK ctx 53 3 t4 h5 fun t6 =>
K.callFK run 53 [t6, (.int .u8 (.ofNat 5)), t2] h5 fun t7 h8 =>
K.unmarkK [] h8 fun h9 => .ok t7 h9)
noncomputable def r28 : K.KRun → List AV → H → K.KR := fun run args h => K.uncons args fun t0 l1 => K.unnil l1 (
K.ltK (K.binV ctx .lss 3 true t0 (.int .i64 (.ofNat 1))) t0 (.int .i64 (.ofNat 1)) fun t2 =>
K.letK (fun (t3 : AV) (h4 : H) => K.letK (fun (t6 : AV) (h7 : H) => K.pickK t2 (.bool true) t6 fun t9 =>
K.iteV t9 (
K.unmarkK [] h7 fun h10 => .ok (.tup [.nilPtr, (.int .i64 (.ofNat 1))]) h10) (
K.bldSK ctx 127 [(0, t0)] fun t11 =>
K.boxK t11 h7 fun t12 h13 =>
K.unmarkK [] h13 fun h14 => .ok (.tup [t12, (.int .i64 (.ofNat 0))]) h14)) fun j8 =>
K.guK false t2 (K.gtK (K.binV ctx .gtr 3 true t3 (.int .i64 (.ofNat 4))) t3 (.int .i64 (.ofNat 4)) fun t15 =>
j8 t15 h4) (j8 (.tup []) h4)) fun j5 =>
K.guK false t2 (j5 t0 h) (j5 (.tup []) h))
noncomputable def r29 : K.KRun → List AV → H → K.KR := fun run args h => K.uncons args fun t0 l1 => K.uncons l1 fun t2 l3 => K.uncons l3 fun t4 l5 => K.uncons l5 fun t6 l7 => K.unnil l7 (
K.boxK t2 h fun t8 h9 =>
K.eqK (K.binV ctx .eql 46 true t0 .nilPtr) t0 .nilPtr fun t10 =>
K.letK (fun (t11 : AV) (h12 : H) => K.letK (fun (t14 : AV) (h15 : H) => K.pickK t10 (.bool true) t14 fun t17 =>
K.iteV t17 (
K.unmarkK [] h15 fun h18 => .ok (.tup [.nilPtr, (.int .i64 (.ofNat 2))]) h18) (
K.ldsK ctx 53 3 t8 h15 fun t19 =>
K.callFK run 54 [t0, t19, t6] h15 fun t20 h21 =>
K.extK t20 0 fun t22 =>
K.extK t20 1 fun t23 =>
K.neK (K.binV ctx .neq 29 true t23 (.int .i64 (.ofNat 0))) t23 (.int .i64 (.ofNat 0)) fun t24 =>
K.iteV t24 (
K.unmarkK [] h21 fun h25 => .ok (.tup [.nilPtr, t23]) h25) (
K.bldSK ctx 133 [(0, t0), (1, t4), (2, t6), (3, t22)] fun t26 =>
K.boxK t26 h21 fun t27 h28 =>
K.unmarkK [] h28 fun h29 => .ok (.tup [t27, (.int .i64 (.ofNat 0))]) h29))) fun j16 =>
K.guK false t10 (K.eqK (K.binV ctx .eql 74 true t11 .nilPtr) t11 .nilPtr fun t30 =>
j16 t30 h12) (j16 (.tup []) h12)) fun j13 =>
K.guK false t10 (j13 t4 h9) (j13 (.tup []) h9))
noncomputable def r30 : K.KRun → List AV → H → K.KR := fun run args h => K.uncons args fun t0 l1 => K.uncons l1 fun t2 l3 => K.unnil l3 (
K.boxK t2 h fun t4 h5 =>
K.ldsK ctx 27 12 t4 h5 fun t6 =>
K.callFK run 55 [t6] h5 fun t7 h8 =>
K.notK t7 fun t9 =>
K.iteV t9 (
K.unmarkK [] h8 fun h10 => .ok (.tup [.nilSlice, (.int .i64 (.ofNat 1))]) h10) (
K.callFK run 26 [t0] h8 fun t11 h12 =>
K.extK t11 0 fun t13 =>
K.extK t11 1 fun t14 =>
K.allocK (K.zN ctx 53) (K.zT ctx 53) h12 fun t15 h16 =>
K.stsK 3 t15 t13 h16 fun h17 =>
K.notK t14 fun t18 =>
K.iteV t18 (
K.unmarkK [] h17 fun h19 => .ok (.tup [.nilSlice, (.int .i64 (.ofNat 4))]) h19) (
K.ldsK ctx 27 12 t4 h17 fun t20 =>
K.callFK run 56 [t0, t20] h17 fun t21 h22 =>
K.unmarkK [] h22 fun h23 => .ok (.tup [t21, (.int .i64 (.ofNat 0))]) h23)))
noncomputable def r31 : K.KRun → List AV → H → K.KR := fun run args h => K.uncons args fun t0 l1 => K.uncons l1 fun t2 l3 => K.unnil l3 (
K.nilK t0 fun t4 =>
K.fldK 3 t4 fun t5 =>
K.ldK ctx 77 t5 h fun t6 =>
K.lenVK t6 fun t7 =>
K.eqK (K.binV ctx .eql 3 true t7 (.int .i64 (.ofNat 0))) t7 (.int .i64 (.ofNat 0)) fun t8 =>
K.iteV t8 (
K.unmarkK [] h fun h9 => .ok (.int .i64 (.ofNat 6)) h9) (
K.nilK t0 fun t10 =>
K.fldK 3 t10 fun t11 =>
K.ldK ctx 77 t11 h fun t12 =>
K.idxSK 13 t12 (.int .i64 (.ofNat 0)) fun t13 =>
K.ldsK ctx 89 13 t13 h fun t14 =>
K.nilK t0 fun t15 =>
K.fldK 3 t15 fun t16 =>
K.ldK ctx 77 t16 h fun t17 =>
K.lenVK t17 fun t18 =>
K.allocK (K.zN ctx 89) (K.zT ctx 89) h fun t19 h20 =>
K.stsK 13 t19 t14 h20 fun h21 =>
K.ldK ctx 77 t16 h21 fun t22 =>
K.req (AV.same t17 t22) (
K.nilK t0 fun t23 =>
K.fldK 1 t23 fun t24 =>
K.ldK ctx 79 t24 h21 fun t25 =>
K.idxSK 1 t25 t2 fun t26 =>
K.ldK ctx 82 t26 h21 fun t27 =>
K.fldK 1 t19 fun t28 =>
K.ldsK ctx 27 12 t28 h21 fun t29 =>
K.callFK run 57 [t27, t29] h21 fun t30 h31 =>
K.neK (K.binV ctx .neq 29 true t30 (.int .i64 (.ofNat 0))) t30 (.int .i64 (.ofNat 0)) fun t32 =>
K.iteV t32 (
K.unmarkK [] h31 fun h33 => .ok t30 h33) (
K.nilK t0 fun t34 =>
K.fldK 2 t34 fun t35 =>
K.ldK ctx 77 t35 h31 fun t36 =>
K.nilK t0 fun t37 =>
K.fldK 3 t37 fun t38 =>
K.ldK ctx 77 t38 h31 fun t39 =>
K.slcK ctx 77 t39 (some (.int .i64 (.ofNat 1))) (some t18) (some t18) h31 fun t40 =>
K.ldsK ctx 89 13 t19 h31 fun t41 =>
K.nilK t0 fun t42 =>
K.fldK 3 t42 fun t43 =>
K.stK t43 t40 h31 fun h44 =>
K.ldsK ctx 89 13 t19 h44 fun t45 =>
K.req (AV.same t41 t45) (
K.idxSK 13 t36 t2 fun t46 =>
K.stsK 13 t46 t41 h44 fun h47 =>
K.unmarkK [] h47 fun h48 => .ok (.int .i64 (.ofNat 0)) h48)))))
noncomputable def r32 : K.KRun → List AV → H → K.KR := fun run args h => K.uncons args fun t0 l1 => K.unnil l1 (
K.eqK (K.binV ctx .eql 82 true t0 .nilPtr) t0 .nilPtr fun t2 =>
K.iteV t2 (
K.unmarkK [] h fun h3 => .ok (.tup [(.int .u8 (.ofNat 0)), (.int .i64 (.ofNat 2))]) h3) (
K.nilK t0 fun t4 =>
K.fldK 16 t4 fun t5 =>
K.ldK ctx 131 t5 h fun t6 =>
K.eqK (K.binV ctx .eql 131 true t6 .nilFunc) t6 .nilFunc fun t7 =>
K.iteV t7 (
K.unmarkK [] h fun h8 => .ok (.tup [(.int .u8 (.ofNat 0)), (.int .i64 (.ofNat 3))]) h8) (
K.nilK t0 fun t9 =>
K.fldK 1 t9 fun t10 =>
K.ldK ctx 74 t10 h fun t11 =>
K.nilK t0 fun t12 =>
K.fldK 2 t12 fun t13 =>
K.ldK ctx 3 t13 h fun t14 =>
K.callFK run 58 [t11, t14] h fun t15 h16 =>
K.extK t15 0 fun t17 =>
K.extK t15 1 fun t18 =>
K.iteV t18 (
K.unmarkK [] h16 fun h19 => .ok (.tup [(.int .u8 (.ofNat 2)), (.int .i64 (.ofNat 0))]) h19) (
K.nilK t0 fun t20 =>
K.fldK 16 t20 fun t21 =>
K.ldK ctx 131 t21 h16 fun t22 =>
K.callVK run t22 [] h16 fun t23 h24 =>
K.unmarkK [] h24 fun h25 => .ok (.tup [t23, (.int .i64 (.ofNat 0))]) h25))))
noncomputable def r34 : K.KRun → List AV → H → K.KR := fun run args h => K.uncons args fun t0 l1 => K.uncons l1 fun t2 l3 => K.unnil l3 (
K.boxK t2 h fun t4 h5 =>
K.nilK t0 fun t6 =>
K.fldK 3 t6 fun t7 =>
K.ldK ctx 77 t7 h5 fun t8 =>
K.nilK t0 fun t9 =>
K.fldK 2 t9 fun t10 =>
K.ldK ctx 77 t10 h5 fun t11 =>
K.bslK ctx 77 1 2 [(0, t8), (1, t11)] h5 fun t12 h13 =>
K.callFK run 60 [t12] h13 fun t14 h15 =>
K.callFK run 59 [t14, (.func (.func 61) [] [t4])] h15 fun t16 h17 =>
K.unmarkK [] h17 fun h18 => .ok t16 h18)
noncomputable def r37 : K.KRun → List AV → H → K.KR := fun run args h => K.uncons args fun t0 l1 => K.uncons l1 fun t2 l3 => K.uncons l3 fun t4 l5 => K.uncons l5 fun t6 l7 => K.unnil l7 (
K.allocK (K.zN ctx 39) (K.zT ctx 39) h fun t8 h9 =>
K.bldSK ctx 39 [] fun t10 =>
K.allocK (K.zN ctx 39) (K.zT ctx 39) h9 fun t11 h12 =>
K.stsK 4 t11 t10 h12 fun h13 =>
K.callFK run 62 [t0, t6, (.int .u64 (.ofNat 1))] h13 fun t14 h15 =>
K.neK (K.binV ctx .neq 29 true t14 (.int .i64 (.ofNat 0))) t14 (.int .i64 (.ofNat 0)) fun t16 =>
K.iteV t16 (
K.ldsK ctx 39 4 t11 h15 fun t17 =>
K.stsK 4 t8 t17 h15 fun h18 =>
K.unmarkK [] h18 fun h19 => K.asPtr t8 fun n20 n21 => K.loads h19 n20 n21 4 fun t22 => .ok (.tup [(.int .u8 (.ofNat 0)), (.agg t22), t14]) h19) (
K.callFK run 63 [t0, t2, t4] h15 fun t23 h24 =>
K.extK t23 0 fun t25 =>
K.extK t23 1 fun t26 =>
K.allocK (K.zN ctx 143) (K.zT ctx 143) h24 fun t27 h28 =>
K.stsK 3 t27 t25 h28 fun h29 =>
K.neK (K.binV ctx .neq 29 true t26 (.int .i64 (.ofNat 0))) t26 (.int .i64 (.ofNat 0)) fun t30 =>
K.iteV t30 (
K.ldsK ctx 39 4 t11 h29 fun t31 =>
K.stsK 4 t8 t31 h29 fun h32 =>
K.unmarkK [] h32 fun h33 => K.asPtr t8 fun n34 n35 => K.loads h33 n34 n35 4 fun t36 => .ok (.tup [(.int .u8 (.ofNat 0)), (.agg t36), t26]) h33) (
K.fldK 2 t27 fun t37 =>
K.ldK ctx 23 t37 h29 fun t38 =>
K.leK (K.binV ctx .leq 23 false t6 t38) t6 t38 fun t39 =>
K.iteV t39 (
K.ldsK ctx 39 4 t11 h29 fun t40 =>
K.stsK 4 t8 t40 h29 fun h41 =>
K.unmarkK [] h41 fun h42 => K.asPtr t8 fun n43 n44 => K.loads h42 n43 n44 4 fun t45 => .ok (.tup [(.int .u8 (.ofNat 2)), (.agg t45), (.int .i64 (.ofNat 0))]) h42) (
K.fldK 2 t27 fun t46 =>
K.ldK ctx 23 t46 h29 fun t47 =>
K.subK (K.binV ctx .sub 23 false t6 t47) t6 t47 fun t48 =>
K.gtK (K.binV ctx .gtr 23 true t48 (.int .u64 (.ofNat 4))) t48 (.int .u64 (.ofNat 4)) fun t49 =>
K.iteV t49 (
K.ldsK ctx 39 4 t11 h29 fun t50 =>
K.stsK 4 t8 t50 h29 fun h51 =>
K.unmarkK [] h51 fun h52 => K.asPtr t8 fun n53 n54 => K.loads h52 n53 n54 4 fun t55 => .ok (.tup [(.int .u8 (.ofNat 3)), (.agg t55), (.int .i64 (.ofNat 0))]) h52) (
K.oK (K.binV ctx .rem 23 true t6 (.int .u64 (.ofNat 4))) fun t56 =>
K.rK (convA ctx 23 3 t56 h29) fun t57 h58 =>
K.callFK run 64 [t0, t2, t57] h58 fun t59 h60 =>
K.extK t59 0 fun t61 =>
K.extK t59 1 fun t62 =>
K.extK t59 2 fun t63 =>
K.allocK (K.zN ctx 39) (K.zT ctx 39) h60 fun t64 h65 =>
K.stsK 4 t64 t62 h65 fun h66 =>
K.neK (K.binV ctx .neq 29 true t63 (.int .i64 (.ofNat 0))) t63 (.int .i64 (.ofNat 0)) fun t67 =>
K.letK (fun (t68 : AV) (h69 : H) => K.letK (fun (t71 : AV) (h72 : H) => K.letK (fun (t74 : AV) (h75 : H) => K.pickK t67 (.bool true) t74 fun t77 =>
K.iteV t77 (
K.ldsK ctx 39 4 t11 h75 fun t78 =>
K.stsK 4 t8 t78 h75 fun h79 =>
K.unmarkK [] h79 fun h80 => K.asPtr t8 fun n81 n82 => K.loads h80 n81 n82 4 fun t83 => .ok (.tup [(.int .u8 (.ofNat 0)), (.agg t83), t63]) h80) (
K.ldsK ctx 39 4 t64 h75 fun t84 =>
K.stsK 4 t8 t84 h75 fun h85 =>
K.unmarkK [] h85 fun h86 => K.asPtr t8 fun n87 n88 => K.loads h86 n87 n88 4 fun t89 => .ok (.tup [(.int .u8 (.ofNat 1)), (.agg t89), (.int .i64 (.ofNat 0))]) h86)) fun j76 =>
K.guK false t67 (K.neK (K.binV ctx .neq 23 false t68 t71) t68 t71 fun t90 =>
j76 t90 h72) (j76 (.tup []) h72)) fun j73 =>
K.guK false t67 (j73 t6 h69) (j73 (.tup []) h69)) fun j70 =>
K.guK false t67 (j70 t61 h66) (j70 (.tup []) h66))))))
noncomputable def r38 : K.KRun → List AV → H → K.KR := fun run args h => K.uncons args fun t0 l1 => K.unnil l1 (
K.callFK run 65 [t0] h fun t2 h3 =>
K.slowK ctx run (K.opAt Go.Proofs.Tryz.f38 1 2) [] [] h3 fun t4 h5 =>
K.bldSK ctx 151 [(0, t2), (1, t4)] fun t6 =>
K.boxK t6 h5 fun t7 h8 =>
K.unmarkK [] h8 fun h9 => .ok t7 h9)
noncomputable def r39 : K.KRun → List AV → H → K.KR := fun run args h => K.uncons args fun t0 l1 => K.uncons l1 fun t2 l3 => K.uncons l3 fun t4 l5 => K.unnil l5 (
K.callFK run 66 [t0, t2] h fun t6 h7 =>
K.extK t6 0 fun t8 =>
K.extK t6 1 fun t9 =>
K.letK (fun (l10 : List AV) (m11 : List Nat) (h12 : H) => K.uncons l10 fun t14 l15 => K.unnil l15 (
K.unmarkK m11 h12 fun h16 => .ok t14 h16)) fun j13 =>
K.eqK (K.binV ctx .eql 29 true t9 (.int .i64 (.ofNat 0))) t9 (.int .i64 (.ofNat 0)) fun t17 =>
K.iteV t17 (
K.nilK t8 fun t18 =>
K.fldK 1 t18 fun t19 =>
K.stK t19 t4 h7 fun h20 =>
K.nilK t8 fun t21 =>
K.fldK 2 t21 fun t22 =>
K.fldK 0 t22 fun t23 =>
K.stK t23 (.bool true) h20 fun h24 =>
K.nilK t8 fun t25 =>
K.fldK 2 t25 fun t26 =>
K.fldK 2 t26 fun t27 =>
K.stK t27 (.bool true) h24 fun h28 =>
j13 [t9] [] h28) (
j13 [t9] [] h7))
noncomputable def r40 : K.KRun → List AV → H → K.KR := fun run args h => K.uncons args fun t0 l1 => K.uncons l1 fun t2 l3 => K.unnil l3 (
K.callFK run 67 [t0, t2, (.func (.func 68) [] [])] h fun t4 h5 =>
K.unmarkK [] h5 fun h6 => .ok t4 h6)
noncomputable def r41 : K.KRun → List AV → H → K.KR := fun run args h => K.uncons args fun t0 l1 => K.unnil l1 (
K.boxK t0 h fun t2 h3 =>
K.fldK 0 t2 fun t4 =>
K.ldK ctx 3 t4 h3 fun t5 =>
K.callFK run 70 [t5, (.int .i64 (.ofNat 1)), (.int .i64 (.ofNat 4))] h3 fun t6 h7 =>
K.letK (fun (t8 : AV) (h9 : H) => K.letK (fun (t11 : AV) (h12 : H) => K.letK (fun (t14 : AV) (h15 : H) => K.pickK t6 t14 (.bool false) fun t17 =>
K.letK (fun (t18 : AV) (h19 : H) => K.letK (fun (t21 : AV) (h22 : H) => K.letK (fun (t24 : AV) (h25 : H) => K.pickK t17 t24 (.bool false) fun t27 =>
K.unmarkK [] h25 fun h28 => .ok t27 h28) fun j26 =>
K.guK true t17 (K.callFK run 70 [t21, (.int .i64 (.ofNat 2)), (.int .i64 (.ofNat 512))] h22 fun t29 h30 =>
j26 t29 h30) (j26 (.tup []) h22)) fun j23 =>
K.guK true t17 (K.ldK ctx 3 t18 h19 fun t31 =>
j23 t31 h19) (j23 (.tup []) h19)) fun j20 =>
K.guK true t17 (K.fldK 2 t2 fun t32 =>
j20 t32 h15) (j20 (.tup []) h15)) fun j16 =>
K.guK true t6 (K.callFK run 70 [t11, (.int .i64 (.ofNat 2)), (.int .i64 (.ofNat 64))] h12 fun t33 h34 =>
j16 t33 h34) (j16 (.tup []) h12)) fun j13 =>
K.guK true t6 (K.ldK ctx 3 t8 h9 fun t35 =>
j13 t35 h9) (j13 (.tup []) h9)) fun j10 =>
K.guK true t6 (K.fldK 1 t2 fun t36 =>
j10 t36 h7) (j10 (.tup []) h7))
noncomputable def r42 : K.KRun → List AV → H → K.KR := fun run args h => K.uncons args fun t0 l1 => K.unnil l1 (
K.boxK t0 h fun t2 h3 =>
K.ldsK ctx 53 3 t2 h3 fun t4 =>
K.callFK run 41 [t4] h3 fun t5 h6 =>
K.notK t5 fun t7 =>
K.iteV t7 (
K.unmarkK [] h6 fun h8 => .ok (.int .i64 (.ofNat 0)) h8) (
K.letK (fun (l9 : List AV) (m10 : List Nat) (h11 : H) => K.uncons l9 fun t13 l14 => K.unnil l14 (
K.unmarkK m10 h11 fun h15 => .ok t13 h15)) fun j12 =>
K.ldsK ctx 53 3 t2 h6 fun t16 =>
K.callFK run 71 [t16] h6 fun t17 h18 =>
K.loopV (nat_lit 1000000) (fun s22 l19 m20 h21 => K.uncons l19 fun t23 l24 => K.uncons l24 fun t25 l26 => K.uncons l26 fun t27 l28 => K.unnil l28 (
K.ltK (K.binV ctx .lss 3 true t27 (.int .i64 (.ofNat 7))) t27 (.int .i64 (.ofNat 7)) fun t29 =>
K.iteV t29 (
K.idxK ctx 160 3 7 t25 t27 fun t30 =>
K.allocK (K.zN ctx 160) (K.zT ctx 160) h21 fun t31 h32 =>
K.stsK 3 t31 t30 h32 fun h33 =>
K.fldK 1 t31 fun t34 =>
K.ldK ctx 3 t34 h33 fun t35 =>
K.fldK 2 t31 fun t36 =>
K.ldK ctx 3 t36 h33 fun t37 =>
K.mulK (K.binV ctx .mul 3 false t35 t37) t35 t37 fun t38 =>
K.addK (K.binV ctx .add 3 false t23 t38) t23 t38 fun t39 =>
K.addK (K.binV ctx .add 3 true t27 (.int .i64 (.ofNat 1))) t27 (.int .i64 (.ofNat 1)) fun t40 =>
s22 [t39, t25, t40] m20 h33) (
j12 [t23] m20 h21))) [(.int .i64 (.ofNat 0)), t17, (.int .i64 (.ofNat 0))] [] h18))
noncomputable def r43 : K.KRun → List AV → H → K.KR := fun run args h => K.uncons args fun t0 l1 => K.unnil l1 (
K.boxK t0 h fun t2 h3 =>
K.ldsK ctx 53 3 t2 h3 fun t4 =>
K.callFK run 53 [t4, (.int .u8 (.ofNat 6)), (.int .i64 (.ofNat 0))] h3 fun t5 h6 =>
K.unmarkK [] h6 fun h7 => .ok t5 h7)
noncomputable def r44 : K.KRun → List AV → H → K.KR := fun run args h => K.uncons args fun t0 l1 => K.unnil l1 (
K.boxK t0 h fun t2 h3 =>
K.ldsK ctx 53 3 t2 h3 fun t4 =>
K.callFK run 53 [t4, (.int .u8 (.ofNat 7)), (.int .i64 (.ofNat 0))] h3 fun t5 h6 =>
K.unmarkK [] h6 fun h7 => .ok t5 h7)
noncomputable def r45 : K.KRun → List AV → H → K.KR := fun run args h => K.uncons args fun t0 l1 => K.uncons l1 fun t2 l3 => K.unnil l3 (
K.boxK t0 h fun t4 h5 =>
K.ldsK ctx 53 3 t4 h5 fun t6 =>
K.callFK run 53 [t6, (.int .u8 (.ofNat 8)), t2] h5 fun t7 h8 =>
K.unmarkK [] h8 fun h9 => .ok t7 h9)
noncomputable def r46 : K.KRun → List AV → H → K.KR := fun run args h => K.uncons args fun t0 l1 => K.unnil l1 (
K.allocK (K.zN ctx 53) (K.zT ctx 53) h fun t2 h3 =>
K.oK (K.binV ctx .rem 5 true t0 (.int .u8 (.ofNat 39))) fun t4 =>
K.addK (K.binV ctx .add 5 true (.int .u8 (.ofNat 20)) t4) (.int .u8 (.ofNat 20)) t4 fun t5 =>
K.callFK run 72 [(.int .u8 (.ofNat 9)), t5] h3 fun t6 h7 =>
K.stsK 3 t2 t6 h7 fun h8 =>
K.unmarkK [] h8 fun h9 => K.asPtr t2 fun n10 n11 => K.loads h9 n10 n11 3 fun t12 => .ok (.agg t12) h9)
noncomputable def r48 : K.KRun → List AV → H → K.KR := fun run args h => K.uncons args fun t0 l1 => K.uncons l1 fun t2 l3 => K.unnil l3 (
K.boxK t0 h fun t4 h5 =>
K.boxK t2 h5 fun t6 h7 =>
K.allocK (K.zN ctx 29) (K.zT ctx 29) h7 fun t8 h9 =>
K.ldK ctx 46 t4 h9 fun t10 =>
K.eqK (K.binV ctx .eql 46 true t10 .nilPtr) t10 .nilPtr fun t11 =>
K.iteV t11 (
K.stK t8 (.int .i64 (.ofNat 2)) h9 fun h12 =>
K.unmarkK [] h12 fun h13 => K.asPtr t8 fun n14 n15 => K.load1 h13 n14 n15 fun t16 => .ok t16 h13) (
K.ldsK ctx 53 3 t6 h9 fun t17 =>
K.callFK run 41 [t17] h9 fun t18 h19 =>
K.notK t18 fun t20 =>
K.iteV t20 (
K.stK t8 (.int .i64 (.ofNat 1)) h19 fun h21 =>
K.unmarkK [] h21 fun h22 => K.asPtr t8 fun n23 n24 => K.load1 h22 n23 n24 fun t25 => .ok t25 h22) (
K.ldK ctx 46 t4 h19 fun t26 =>
K.ldsK ctx 53 3 t6 h19 fun t27 =>
K.callFK run 78 [t26] h19 fun t28 h29 =>
K.ldsK ctx 53 3 t6 h29 fun t30 =>
K.req (AV.same t27 t30) (
K.callFK run 42 [t27] h29 fun t31 h32 =>
K.ltK (K.binV ctx .lss 3 false t28 t31) t28 t31 fun t33 =>
K.iteV t33 (
K.stK t8 (.int .i64 (.ofNat 8)) h32 fun h34 =>
K.unmarkK [] h34 fun h35 => K.asPtr t8 fun n36 n37 => K.load1 h35 n36 n37 fun t38 => .ok t38 h35) (
K.ldsK ctx 53 3 t6 h32 fun t39 =>
K.callFK run 12 [t39] h32 fun t40 h41 =>
K.letK (fun (l42 : List AV) (m43 : List Nat) (h44 : H) => K.uncons l42 fun t46 l47 => K.uncons l47 fun t48 l49 => K.uncons l49 fun t50 l51 => K.unnil l51 (
K.lenVK t50 fun t52 =>
K.addK (K.binV ctx .add 3 true t52 (.int .i64 (.ofNat 8))) t52 (.int .i64 (.ofNat 8)) fun t53 =>
K.subK (K.binV ctx .sub 3 true t53 (.int .i64 (.ofNat 1))) t53 (.int .i64 (.ofNat 1)) fun t54 =>
K.oK (K.binV ctx .quo 3 true t54 (.int .i64 (.ofNat 8))) fun t55 =>
K.ldK ctx 46 t46 h44 fun t56 =>
K.callFK run 80 [t55, (.func (.func 81) [t56] [])] h44 fun t57 h58 =>
K.neK (K.binV ctx .neq 29 true t57 (.int .i64 (.ofNat 0))) t57 (.int .i64 (.ofNat 0)) fun t59 =>
K.iteV t59 (
K.stK t48 t57 h58 fun h60 =>
K.unmarkK m43 h60 fun h61 => K.asPtr t48 fun n62 n63 => K.load1 h61 n62 n63 fun t64 => .ok t64 h61) (
K.ldK ctx 46 t46 h58 fun t65 =>
K.callFK run 82 [t65] h58 fun t66 h67 =>
K.stK t48 t66 h67 fun h68 =>
K.unmarkK m43 h68 fun h69 => K.asPtr t48 fun n70 n71 => K.load1 h69 n70 n71 fun t72 => .ok t72 h69))) fun j45 =>
K.callFK run 79 [t40] h41 fun t73 h74 =>
K.hNew h74 .marks fun r75 h76 => K.hNew h76 (.loop .ready none (K.mkT [2, 4, 5, 26] [t4, t8, t40, t73]) 1 r75) fun n77 h78 =>
K.rngK ctx run t73 n77 h78 (fun h80 => j45 [t4, t8, t40] (r75 :: []) h80) (fun h81 => K.unmarkK (r75 :: []) h81 fun h84 => K.asPtr t8 fun n85 n86 => K.load1 h84 n85 n86 fun t87 => .ok t87 h84) fun i79 h82 => (Bool.rec (motive := fun _ => K.KR) (.bad) (j45 [t4, t8, t40] (r75 :: []) h82) (Nat.beq i79 1)))))))
end YtjhcfoinldcaoaaGreatDoorWdM
