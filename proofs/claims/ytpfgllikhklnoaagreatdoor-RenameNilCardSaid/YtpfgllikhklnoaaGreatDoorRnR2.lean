/- PRINTED BY Gen2.lean (own): functions as plain texts, part 2. -/
import Derived.Test.YtpfgllikhklnoaaGreatDoorRnCtx
namespace YtpfgllikhklnoaaGreatDoorRnM
open Go Am
set_option maxRecDepth 100000
noncomputable def r102 : K.KRun → List AV → H → K.KR := fun run args h => K.uncons args fun t0 l1 => K.uncons l1 fun t2 l3 => K.uncons l3 fun t4 l5 => K.uncons l5 fun t6 l7 => K.unnil l7 (
K.boxK t2 h fun t8 h9 =>
K.ldsK ctx 23 3 t8 h9 fun t10 =>
K.callFK run 89 [t0, t10, t4] h9 fun t11 h12 =>
K.extK t11 0 fun t13 =>
K.extK t11 1 fun t14 =>
K.allocK (K.zN ctx 124) (K.zT ctx 124) h12 fun t15 h16 =>
K.stsK 5 t15 t13 h16 fun h17 =>
K.neK (K.binV ctx .neq 24 true t14 (.int .i64 (.ofNat 0))) t14 (.int .i64 (.ofNat 0)) fun t18 =>
K.iteV t18 (
K.unmarkK [] h17 fun h19 => .ok t14 h19) (
K.ldsK ctx 124 5 t15 h17 fun t20 =>
K.callFK run 90 [t20, t6] h17 fun t21 h22 =>
K.extK t21 0 fun t23 =>
K.extK t21 1 fun t24 =>
K.extK t21 2 fun t25 =>
K.allocK (K.zN ctx 64) (K.zT ctx 64) h22 fun t26 h27 =>
K.stsK 2 t26 t23 h27 fun h28 =>
K.neK (K.binV ctx .neq 24 true t25 (.int .i64 (.ofNat 0))) t25 (.int .i64 (.ofNat 0)) fun t29 =>
K.iteV t29 (
K.unmarkK [] h28 fun h30 => .ok t25 h30) (
K.fldK 4 t15 fun t31 =>
K.ldK ctx 85 t31 h28 fun t32 =>
K.callFK run 107 [t32, t24] h28 fun t33 h34 =>
K.unmarkK [] h34 fun h35 => .ok t33 h35)))
noncomputable def r104 : K.KRun → List AV → H → K.KR := fun run args h => K.uncons args fun t0 l1 => K.unnil l1 (
K.boxK t0 h fun t2 h3 =>
K.unmarkK [] h3 fun h4 => .ok (.func (.func 132) [] [t2]) h4)
noncomputable def r105 : K.KRun → List AV → H → K.KR := fun run args h => K.uncons args fun t0 l1 => K.uncons l1 fun t2 l3 => K.unnil l3 (
K.boxK t0 h fun t4 h5 =>
K.allocK (K.zN ctx 64) (K.zT ctx 64) h5 fun t6 h7 =>
K.fldK 4 t4 fun t8 =>
K.ldK ctx 85 t8 h7 fun t9 =>
K.callFK run 125 [t9, t2] h7 fun t10 h11 =>
K.extK t10 0 fun t12 =>
K.extK t10 1 fun t13 =>
K.neK (K.binV ctx .neq 24 true t13 (.int .i64 (.ofNat 0))) t13 (.int .i64 (.ofNat 0)) fun t14 =>
K.letK (fun (t15 : AV) (h16 : H) => K.letK (fun (t18 : AV) (h19 : H) => K.pickK t14 (.bool true) t18 fun t21 =>
K.iteV t21 (
K.bldSK ctx 64 [] fun t22 =>
K.stsK 2 t6 t22 h19 fun h23 =>
K.unmarkK [] h23 fun h24 => K.asPtr t6 fun n25 n26 => K.loads h24 n25 n26 2 fun t27 => .ok (.tup [(.agg t27), t13]) h24) (
K.fldK 1 t4 fun t28 =>
K.ldsK ctx 23 3 t28 h19 fun t29 =>
K.callFK run 128 [t29, t12] h19 fun t30 h31 =>
K.fldK 0 t4 fun t32 =>
K.ldK ctx 29 t32 h31 fun t33 =>
K.fldK 0 t4 fun t34 =>
K.ldK ctx 29 t34 h31 fun t35 =>
K.addK (K.binV ctx .add 3 true t30 (.int .i64 (.ofNat 1))) t30 (.int .i64 (.ofNat 1)) fun t36 =>
K.callFK run 72 [t33, t30] h31 fun t37 h38 =>
K.ldK ctx 29 t34 h38 fun t39 =>
K.req (AV.same t35 t39) (
K.callFK run 72 [t35, t36] h38 fun t40 h41 =>
K.ltK (K.binV ctx .lss 27 true t37 (.int .u64 (.ofNat 1))) t37 (.int .u64 (.ofNat 1)) fun t42 =>
K.letK (fun (t43 : AV) (h44 : H) => K.letK (fun (t46 : AV) (h47 : H) => K.letK (fun (t49 : AV) (h50 : H) => K.letK (fun (t52 : AV) (h53 : H) => K.letK (fun (t55 : AV) (h56 : H) => K.letK (fun (t58 : AV) (h59 : H) => K.pickK t42 (.bool true) t58 fun t61 =>
K.letK (fun (t62 : AV) (h63 : H) => K.letK (fun (t65 : AV) (h66 : H) => K.pickK t61 (.bool true) t65 fun t68 =>
K.iteV t68 (
K.bldSK ctx 64 [] fun t69 =>
K.stsK 2 t6 t69 h66 fun h70 =>
K.unmarkK [] h70 fun h71 => K.asPtr t6 fun n72 n73 => K.loads h71 n72 n73 2 fun t74 => .ok (.tup [(.agg t74), (.int .i64 (.ofNat 4))]) h71) (
K.letK (fun (l75 : List AV) (m76 : List Nat) (h77 : H) => K.uncons l75 fun t79 l80 => K.uncons l80 fun t81 l82 => K.uncons l82 fun t83 l84 => K.uncons l84 fun t85 l86 => K.unnil l86 (
K.rK (convA ctx 27 3 t83 h77) fun t87 h88 =>
K.callFK run 133 [t85, t87] h88 fun t89 h90 =>
K.extK t89 0 fun t91 =>
K.extK t89 1 fun t92 =>
K.neK (K.binV ctx .neq 24 true t92 (.int .i64 (.ofNat 0))) t92 (.int .i64 (.ofNat 0)) fun t93 =>
K.letK (fun (t94 : AV) (h95 : H) => K.letK (fun (t97 : AV) (h98 : H) => K.letK (fun (t100 : AV) (h101 : H) => K.pickK t93 (.bool true) t100 fun t103 =>
K.iteV t103 (
K.bldSK ctx 64 [] fun t104 =>
K.stsK 2 t79 t104 h101 fun h105 =>
K.unmarkK m76 h105 fun h106 => K.asPtr t79 fun n107 n108 => K.loads h106 n107 n108 2 fun t109 => .ok (.tup [(.agg t109), (.int .i64 (.ofNat 4))]) h106) (
K.rK (convA ctx 27 3 t81 h101) fun t110 h111 =>
K.bldSK ctx 64 [(0, t91), (1, t110)] fun t112 =>
K.stsK 2 t79 t112 h111 fun h113 =>
K.unmarkK m76 h113 fun h114 => K.asPtr t79 fun n115 n116 => K.loads h114 n115 n116 2 fun t117 => .ok (.tup [(.agg t117), (.int .i64 (.ofNat 0))]) h114)) fun j102 =>
K.guK false t93 (K.notK t97 fun t118 =>
j102 t118 h98) (j102 (.tup []) h98)) fun j99 =>
K.guK false t93 (K.callFK run 123 [t94] h95 fun t119 h120 =>
j99 t119 h120) (j99 (.tup []) h95)) fun j96 =>
K.guK false t93 (j96 t91 h90) (j96 (.tup []) h90))) fun j78 =>
K.loopV (nat_lit 1000000) (fun s124 l121 m122 h123 => K.uncons l121 fun t125 l126 => K.uncons l126 fun t127 l128 => K.uncons l128 fun t129 l130 => K.uncons l130 fun t131 l132 => K.uncons l132 fun t133 l134 => K.uncons l134 fun t135 l136 => K.uncons l136 fun t137 l138 => K.unnil l138 (
K.ltK (K.binV ctx .lss 3 true t137 (.int .i64 (.ofNat 8))) t137 (.int .i64 (.ofNat 8)) fun t139 =>
K.iteV t139 (
K.fldK 0 t125 fun t140 =>
K.ldK ctx 29 t140 h123 fun t141 =>
K.addK (K.binV ctx .add 3 false t129 t137) t129 t137 fun t142 =>
K.callFK run 72 [t141, t142] h123 fun t143 h144 =>
K.bslK ctx 27 1 1 [(0, t143)] h144 fun t145 h146 =>
K.appK ctx 27 1 t135 t145 h146 fun t147 h148 =>
K.addK (K.binV ctx .add 3 true t137 (.int .i64 (.ofNat 1))) t137 (.int .i64 (.ofNat 1)) fun t149 =>
s124 [t125, t127, t129, t131, t133, t147, t149] m122 h148) (
j78 [t127, t131, t133, t135] m122 h123))) [t4, t6, t30, t37, t40, .nilSlice, (.int .i64 (.ofNat 2))] [] h66)) fun j67 =>
K.guK false t61 (K.gtK (K.binV ctx .gtr 27 true t62 (.int .u64 (.ofNat 40))) t62 (.int .u64 (.ofNat 40)) fun t150 =>
j67 t150 h63) (j67 (.tup []) h63)) fun j64 =>
K.guK false t61 (j64 t40 h59) (j64 (.tup []) h59)) fun j60 =>
K.guK false t42 (K.geK (K.binV ctx .geq 27 false t43 t55) t43 t55 fun t151 =>
j60 t151 h56) (j60 (.tup []) h56)) fun j57 =>
K.guK false t42 (K.rK (convA ctx 3 27 t52 h53) fun t152 h153 =>
j57 t152 h153) (j57 (.tup []) h53)) fun j54 =>
K.guK false t42 (K.ldK ctx 3 t49 h50 fun t154 =>
j54 t154 h50) (j54 (.tup []) h50)) fun j51 =>
K.guK false t42 (K.fldK 1 t46 fun t155 =>
j51 t155 h47) (j51 (.tup []) h47)) fun j48 =>
K.guK false t42 (K.fldK 1 t4 fun t156 =>
j48 t156 h44) (j48 (.tup []) h44)) fun j45 =>
K.guK false t42 (j45 t37 h41) (j45 (.tup []) h41)))) fun j20 =>
K.guK false t14 (K.eqK (K.binV ctx .eql 3 true t15 (.int .i64 (.ofNat 0))) t15 (.int .i64 (.ofNat 0)) fun t157 =>
j20 t157 h16) (j20 (.tup []) h16)) fun j17 =>
K.guK false t14 (j17 t12 h11) (j17 (.tup []) h11))
noncomputable def r107 : K.KRun → List AV → H → K.KR := fun run args h => K.uncons args fun t0 l1 => K.uncons l1 fun t2 l3 => K.unnil l3 (
K.callFK run 125 [t0, t2] h fun t4 h5 =>
K.extK t4 0 fun t6 =>
K.extK t4 1 fun t7 =>
K.neK (K.binV ctx .neq 24 true t7 (.int .i64 (.ofNat 0))) t7 (.int .i64 (.ofNat 0)) fun t8 =>
K.letK (fun (t9 : AV) (h10 : H) => K.letK (fun (t12 : AV) (h13 : H) => K.pickK t8 (.bool true) t12 fun t15 =>
K.iteV t15 (
K.unmarkK [] h13 fun h16 => .ok t7 h16) (
K.callFK run 135 [t0, t2] h13 fun t17 h18 =>
K.extK t17 0 fun t19 =>
K.extK t17 1 fun t20 =>
K.callFK run 136 [t0, t19, t6] h18 fun t21 h22 =>
K.neK (K.binV ctx .neq 24 true t21 (.int .i64 (.ofNat 0))) t21 (.int .i64 (.ofNat 0)) fun t23 =>
K.iteV t23 (
K.unmarkK [] h22 fun h24 => .ok t21 h24) (
K.callFK run 137 [t0] h22 fun t25 h26 =>
K.neK (K.binV ctx .neq 3 true t25 (.int .i64 (.ofNat 0))) t25 (.int .i64 (.ofNat 0)) fun t27 =>
K.letK (fun (t28 : AV) (h29 : H) => K.letK (fun (t31 : AV) (h32 : H) => K.letK (fun (t34 : AV) (h35 : H) => K.pickK t27 t34 (.bool false) fun t37 =>
K.iteV t37 (
K.callFK run 139 [t0, (.int .i64 (.ofNat 8))] h35 fun t38 h39 =>
K.callFK run 136 [t0, t38, t25] h39 fun t40 h41 =>
K.unmarkK [] h41 fun h42 => .ok t40 h42) (
K.unmarkK [] h35 fun h43 => .ok (.int .i64 (.ofNat 0)) h43)) fun j36 =>
K.guK true t27 (K.callFK run 138 [t28, t31] h32 fun t44 h45 =>
j36 t44 h45) (j36 (.tup []) h32)) fun j33 =>
K.guK true t27 (j33 t25 h29) (j33 (.tup []) h29)) fun j30 =>
K.guK true t27 (j30 t0 h26) (j30 (.tup []) h26)))) fun j14 =>
K.guK false t8 (K.eqK (K.binV ctx .eql 3 true t9 (.int .i64 (.ofNat 0))) t9 (.int .i64 (.ofNat 0)) fun t46 =>
j14 t46 h10) (j14 (.tup []) h10)) fun j11 =>
K.guK false t8 (j11 t6 h5) (j11 (.tup []) h5))
noncomputable def r108 : K.KRun → List AV → H → K.KR := fun run args h => K.uncons args fun t0 l1 => K.uncons l1 fun t2 l3 => K.unnil l3 (
K.boxK t0 h fun t4 h5 =>
K.letK (fun (l6 : List AV) (m7 : List Nat) (h8 : H) => K.uncons l6 fun t10 l11 => K.uncons l11 fun t12 l13 => K.uncons l13 fun t14 l15 => K.unnil l15 (
K.iteV t14 (
K.unmarkK m7 h8 fun h16 => .ok (.int .i64 (.ofNat 1)) h16) (
K.fldK 0 t12 fun t17 =>
K.ldK ctx 108 t17 h8 fun t18 =>
K.callFK run 140 [t18, t10] h8 fun t19 h20 =>
K.notK t19 fun t21 =>
K.iteV t21 (
K.unmarkK m7 h20 fun h22 => .ok (.int .i64 (.ofNat 3)) h22) (
K.fldK 0 t12 fun t23 =>
K.ldK ctx 108 t23 h20 fun t24 =>
K.callFK run 120 [t24, t10, (.bool false)] h20 fun t25 h26 =>
K.unmarkK m7 h26 fun h27 => .ok t25 h27)))) fun j9 =>
K.ltK (K.binV ctx .lss 3 true t2 (.int .i64 (.ofNat 1))) t2 (.int .i64 (.ofNat 1)) fun t28 =>
K.iteV t28 (
j9 [t2, t4, t28] [] h5) (
K.fldK 1 t4 fun t29 =>
K.ldK ctx 3 t29 h5 fun t30 =>
K.geK (K.binV ctx .geq 3 false t2 t30) t2 t30 fun t31 =>
j9 [t2, t4, t31] [] h5))
noncomputable def r109 : K.KRun → List AV → H → K.KR := fun run args h => K.uncons args fun t0 l1 => K.uncons l1 fun t2 l3 => K.uncons l3 fun t4 l5 => K.uncons l5 fun t6 l7 => K.unnil l7 (
K.boxK t2 h fun t8 h9 =>
K.ldsK ctx 23 3 t8 h9 fun t10 =>
K.callFK run 40 [t0, t10, t4] h9 fun t11 h12 =>
K.extK t11 0 fun t13 =>
K.extK t11 1 fun t14 =>
K.allocK (K.zN ctx 58) (K.zT ctx 58) h12 fun t15 h16 =>
K.stsK 10 t15 t13 h16 fun h17 =>
K.neK (K.binV ctx .neq 24 true t14 (.int .i64 (.ofNat 0))) t14 (.int .i64 (.ofNat 0)) fun t18 =>
K.iteV t18 (
K.unmarkK [] h17 fun h19 => .ok (.tup [(.bool false), t14]) h19) (
K.letK (fun (l20 : List AV) (m21 : List Nat) (h22 : H) => K.unnil l20 (
K.unmarkK m21 h22 fun h24 => .ok (.tup [(.bool false), (.int .i64 (.ofNat 4))]) h24)) fun j23 =>
K.fldK 1 t8 fun t25 =>
K.ldK ctx 3 t25 h17 fun t26 =>
K.addK (K.binV ctx .add 3 true t26 (.int .i64 (.ofNat 1))) t26 (.int .i64 (.ofNat 1)) fun t27 =>
K.loopV (nat_lit 1000000) (fun s31 l28 m29 h30 => K.uncons l28 fun t32 l33 => K.uncons l33 fun t34 l35 => K.uncons l35 fun t36 l37 => K.uncons l37 fun t38 l39 => K.uncons l39 fun t40 l41 => K.uncons l41 fun t42 l43 => K.unnil l43 (
K.ltK (K.binV ctx .lss 3 false t42 t40) t42 t40 fun t44 =>
K.iteV t44 (
K.ldsK ctx 23 3 t38 h30 fun t45 =>
K.callFK run 40 [t32, t45, t36] h30 fun t46 h47 =>
K.extK t46 0 fun t48 =>
K.extK t46 1 fun t49 =>
K.allocK (K.zN ctx 58) (K.zT ctx 58) h47 fun t50 h51 =>
K.stsK 10 t50 t48 h51 fun h52 =>
K.neK (K.binV ctx .neq 24 true t49 (.int .i64 (.ofNat 0))) t49 (.int .i64 (.ofNat 0)) fun t53 =>
K.letK (fun (t54 : AV) (h55 : H) => K.letK (fun (t57 : AV) (h58 : H) => K.letK (fun (t60 : AV) (h61 : H) => K.pickK t53 (.bool true) t60 fun t63 =>
K.letK (fun (t64 : AV) (h65 : H) => K.letK (fun (t67 : AV) (h68 : H) => K.letK (fun (t70 : AV) (h71 : H) => K.pickK t63 (.bool true) t70 fun t73 =>
K.iteV t73 (
K.eqK (K.binV ctx .eql 24 true t49 (.int .i64 (.ofNat 0))) t49 (.int .i64 (.ofNat 0)) fun t74 =>
K.letK (fun (t75 : AV) (h76 : H) => K.letK (fun (t78 : AV) (h79 : H) => K.letK (fun (t81 : AV) (h82 : H) => K.pickK t74 t81 (.bool false) fun t84 =>
K.unmarkK m29 h82 fun h85 => .ok (.tup [t84, t49]) h85) fun j83 =>
K.guK true t74 (K.eqK (K.binV ctx .eql 3 false t75 t78) t75 t78 fun t86 =>
j83 t86 h79) (j83 (.tup []) h79)) fun j80 =>
K.guK true t74 (j80 t36 h76) (j80 (.tup []) h76)) fun j77 =>
K.guK true t74 (j77 t34 h71) (j77 (.tup []) h71)) (
K.fldK 9 t50 fun t87 =>
K.ldK ctx 27 t87 h71 fun t88 =>
K.rK (convA ctx 27 3 t88 h71) fun t89 h90 =>
K.addK (K.binV ctx .add 3 true t42 (.int .i64 (.ofNat 1))) t42 (.int .i64 (.ofNat 1)) fun t91 =>
s31 [t32, t34, t89, t38, t40, t91] m29 h90)) fun j72 =>
K.guK false t63 (K.eqK (K.binV ctx .eql 27 true t67 (.int .u64 (.ofNat 0))) t67 (.int .u64 (.ofNat 0)) fun t92 =>
j72 t92 h68) (j72 (.tup []) h68)) fun j69 =>
K.guK false t63 (K.ldK ctx 27 t64 h65 fun t93 =>
j69 t93 h65) (j69 (.tup []) h65)) fun j66 =>
K.guK false t63 (K.fldK 9 t50 fun t94 =>
j66 t94 h61) (j66 (.tup []) h61)) fun j62 =>
K.guK false t53 (K.eqK (K.binV ctx .eql 3 false t54 t57) t54 t57 fun t95 =>
j62 t95 h58) (j62 (.tup []) h58)) fun j59 =>
K.guK false t53 (j59 t36 h55) (j59 (.tup []) h55)) fun j56 =>
K.guK false t53 (j56 t34 h52) (j56 (.tup []) h52)) (
j23 [] m29 h30))) [t0, t4, t6, t8, t27, (.int .i64 (.ofNat 0))] [] h17))
noncomputable def r115 : K.KRun → List AV → H → K.KR := fun run args h => K.uncons args fun t0 l1 => K.uncons l1 fun t2 l3 => K.unnil l3 (
K.geK (K.binV ctx .geq 3 true t2 (.int .i64 (.ofNat 0))) t2 (.int .i64 (.ofNat 0)) fun t4 =>
K.letK (fun (t5 : AV) (h6 : H) => K.letK (fun (t8 : AV) (h9 : H) => K.letK (fun (t11 : AV) (h12 : H) => K.letK (fun (t14 : AV) (h15 : H) => K.pickK t4 t14 (.bool false) fun t17 =>
K.unmarkK [] h15 fun h18 => .ok t17 h18) fun j16 =>
K.guK true t4 (K.ltK (K.binV ctx .lss 3 false t5 t11) t5 t11 fun t19 =>
j16 t19 h12) (j16 (.tup []) h12)) fun j13 =>
K.guK true t4 (K.callFK run 78 [t8] h9 fun t20 h21 =>
j13 t20 h21) (j13 (.tup []) h9)) fun j10 =>
K.guK true t4 (j10 t0 h6) (j10 (.tup []) h6)) fun j7 =>
K.guK true t4 (j7 t2 h) (j7 (.tup []) h))
noncomputable def r117 : K.KRun → List AV → H → K.KR := fun run args h => K.uncons args fun t0 l1 => K.uncons l1 fun t2 l3 => K.uncons l3 fun t4 l5 => K.unnil l5 (
K.geK (K.binV ctx .geq 3 false t0 t2) t0 t2 fun t6 =>
K.letK (fun (t7 : AV) (h8 : H) => K.letK (fun (t10 : AV) (h11 : H) => K.letK (fun (t13 : AV) (h14 : H) => K.pickK t6 t13 (.bool false) fun t16 =>
K.unmarkK [] h14 fun h17 => .ok t16 h17) fun j15 =>
K.guK true t6 (K.leK (K.binV ctx .leq 3 false t7 t10) t7 t10 fun t18 =>
j15 t18 h11) (j15 (.tup []) h11)) fun j12 =>
K.guK true t6 (j12 t4 h8) (j12 (.tup []) h8)) fun j9 =>
K.guK true t6 (j9 t0 h) (j9 (.tup []) h))
noncomputable def r118 : K.KRun → List AV → H → K.KR := fun run args h => K.uncons args fun t0 l1 => K.unnil l1 (
K.boxK t0 h fun t2 h3 =>
K.allocK (K.zN ctx 160) (K.zT ctx 160) h3 fun t4 h5 =>
K.bldSK ctx 159 [(0, (.int .u8 (.ofNat 1))), (1, (.int .i64 (.ofNat 8))), (2, (.int .i64 (.ofNat 1)))] fun t6 =>
K.bldSK ctx 159 [(0, (.int .u8 (.ofNat 2))), (1, (.int .i64 (.ofNat 64))), (2, (.int .i64 (.ofNat 4)))] fun t7 =>
K.fldK 0 t2 fun t8 =>
K.ldK ctx 3 t8 h5 fun t9 =>
K.bldSK ctx 159 [(0, (.int .u8 (.ofNat 5))), (1, (.int .i64 (.ofNat 208))), (2, t9)] fun t10 =>
K.bldSK ctx 159 [(0, (.int .u8 (.ofNat 6))), (1, (.int .i64 (.ofNat 8))), (2, (.int .i64 (.ofNat 1)))] fun t11 =>
K.bldSK ctx 159 [(0, (.int .u8 (.ofNat 7))), (1, (.int .i64 (.ofNat 8))), (2, (.int .i64 (.ofNat 1)))] fun t12 =>
K.fldK 1 t2 fun t13 =>
K.ldK ctx 3 t13 h5 fun t14 =>
K.bldSK ctx 159 [(0, (.int .u8 (.ofNat 8))), (1, (.int .i64 (.ofNat 16))), (2, t14)] fun t15 =>
K.fldK 2 t2 fun t16 =>
K.ldK ctx 3 t16 h5 fun t17 =>
K.bldSK ctx 159 [(0, (.int .u8 (.ofNat 9))), (1, (.int .i64 (.ofNat 8))), (2, t17)] fun t18 =>
K.bldAK ctx 160 3 [(0, t6), (1, t7), (2, t10), (3, t11), (4, t12), (5, t15), (6, t18)] fun t19 =>
K.stsK 21 t4 t19 h5 fun h20 =>
K.unmarkK [] h20 fun h21 => K.asPtr t4 fun n22 n23 => K.loads h21 n22 n23 21 fun t24 => .ok (.agg t24) h21)
noncomputable def r119 : K.KRun → List AV → H → K.KR := fun run args h => K.uncons args fun t0 l1 => K.unnil l1 (
K.boxK t0 h fun t2 h3 =>
K.allocK (K.zN ctx 3) (K.zT ctx 3) h3 fun t4 h5 =>
K.allocK (K.zN ctx 4) (K.zT ctx 4) h5 fun t6 h7 =>
K.letK (fun (l8 : List AV) (m9 : List Nat) (h10 : H) => K.uncons l8 fun t12 l13 => K.uncons l13 fun t14 l15 => K.unnil l15 (
K.stK t12 (.int .i64 (.ofNat 0)) h10 fun h16 =>
K.stK t14 (.bool false) h16 fun h17 =>
K.unmarkK m9 h17 fun h18 => K.asPtr t12 fun n19 n20 => K.load1 h18 n19 n20 fun t21 => K.asPtr t14 fun n22 n23 => K.load1 h18 n22 n23 fun t24 => .ok (.tup [t21, t24]) h18)) fun j11 =>
K.ldK ctx 108 t2 h7 fun t25 =>
K.callFK run 141 [t25] h7 fun t26 h27 =>
K.hNew h27 .marks fun r28 h29 => K.hNew h29 (.loop .ready none (K.mkT [1, 2, 3, 8] [t2, t4, t6, t26]) 4 r28) fun n30 h31 =>
K.rngK ctx run t26 n30 h31 (fun h33 => j11 [t4, t6] (r28 :: []) h33) (fun h34 => K.unmarkK (r28 :: []) h34 fun h37 => K.asPtr t4 fun n38 n39 => K.load1 h37 n38 n39 fun t40 => K.asPtr t6 fun n41 n42 => K.load1 h37 n41 n42 fun t43 => .ok (.tup [t40, t43]) h37) fun i32 h35 => (Bool.rec (motive := fun _ => K.KR) (.bad) (j11 [t4, t6] (r28 :: []) h35) (Nat.beq i32 0)))
noncomputable def r120 : K.KRun → List AV → H → K.KR := fun run args h => K.uncons args fun t0 l1 => K.uncons l1 fun t2 l3 => K.uncons l3 fun t4 l5 => K.unnil l5 (
K.eqK (K.binV ctx .eql 108 true t0 .nilPtr) t0 .nilPtr fun t6 =>
K.iteV t6 (
K.unmarkK [] h fun h7 => .ok (.int .i64 (.ofNat 2)) h7) (
K.callFK run 143 [t0, t2] h fun t8 h9 =>
K.notK t8 fun t10 =>
K.iteV t10 (
K.unmarkK [] h9 fun h11 => .ok (.int .i64 (.ofNat 8)) h11) (
K.callFK run 144 [t0, t2] h9 fun t12 h13 =>
K.extK t12 0 fun t14 =>
K.extK t12 1 fun t15 =>
K.nilK t0 fun t16 =>
K.fldK 0 t16 fun t17 =>
K.ldK ctx 29 t17 h13 fun t18 =>
K.callFK run 72 [t18, t14] h13 fun t19 h20 =>
K.oK (K.binV ctx .andNot 27 false t19 t15) fun t21 =>
K.letK (fun (l22 : List AV) (m23 : List Nat) (h24 : H) => K.uncons l22 fun t26 l27 => K.uncons l27 fun t28 l29 => K.uncons l29 fun t30 l31 => K.unnil l31 (
K.nilK t26 fun t32 =>
K.fldK 0 t32 fun t33 =>
K.ldK ctx 29 t33 h24 fun t34 =>
K.callFK run 98 [t34, t28, t30] h24 fun t35 h36 =>
K.unmarkK m23 h36 fun h37 => .ok t35 h37)) fun j25 =>
K.iteV t4 (
K.oK (K.binV ctx .or 27 false t21 t15) fun t38 =>
j25 [t0, t14, t38] [] h20) (
j25 [t0, t14, t21] [] h20))))
noncomputable def r121 : K.KRun → List AV → H → K.KR := fun run args h => K.uncons args fun t0 l1 => K.uncons l1 fun t2 l3 => K.unnil l3 (
K.letK (fun (l4 : List AV) (m5 : List Nat) (h6 : H) => K.unnil l4 (
K.unmarkK m5 h6 fun h8 => .ok (.int .i64 (.ofNat 0)) h8)) fun j7 =>
K.lenVK t2 fun t9 =>
K.loopV (nat_lit 1000000) (fun s13 l10 m11 h12 => K.uncons l10 fun t14 l15 => K.uncons l15 fun t16 l17 => K.uncons l17 fun t18 l19 => K.uncons l19 fun t20 l21 => K.unnil l21 (
K.ltK (K.binV ctx .lss 3 false t20 t18) t20 t18 fun t22 =>
K.iteV t22 (
K.idxSK 1 t16 t20 fun t23 =>
K.ldK ctx 3 t23 h12 fun t24 =>
K.nilK t14 fun t25 =>
K.fldK 0 t25 fun t26 =>
K.ldK ctx 29 t26 h12 fun t27 =>
K.callFK run 98 [t27, t24, (.int .u64 (.ofNat 0))] h12 fun t28 h29 =>
K.neK (K.binV ctx .neq 24 true t28 (.int .i64 (.ofNat 0))) t28 (.int .i64 (.ofNat 0)) fun t30 =>
K.iteV t30 (
K.unmarkK m11 h29 fun h31 => .ok t28 h31) (
K.addK (K.binV ctx .add 3 true t20 (.int .i64 (.ofNat 1))) t20 (.int .i64 (.ofNat 1)) fun t32 =>
s13 [t14, t16, t18, t32] m11 h29)) (
j7 [] m11 h12))) [t0, t2, t9, (.int .i64 (.ofNat 0))] [] h)
noncomputable def r122 : K.KRun → List AV → H → K.KR := fun run args h => K.uncons args fun t0 l1 => K.unnil l1 (
K.letK (fun (l2 : List AV) (m3 : List Nat) (h4 : H) => K.uncons l2 fun t6 l7 => K.unnil l7 (
K.idxSK 1 t6 (.int .i64 (.ofNat 0)) fun t8 =>
K.ldK ctx 27 t8 h4 fun t9 =>
K.letK (fun (l10 : List AV) (m11 : List Nat) (h12 : H) => K.uncons l10 fun t14 l15 => K.unnil l15 (
K.unmarkK m11 h12 fun h16 => .ok t14 h16)) fun j13 =>
K.loopV (nat_lit 1000000) (fun s20 l17 m18 h19 => K.uncons l17 fun t21 l22 => K.uncons l22 fun t23 l24 => K.uncons l24 fun t25 l26 => K.unnil l26 (
K.lenVK t21 fun t27 =>
K.ltK (K.binV ctx .lss 3 false t25 t27) t25 t27 fun t28 =>
K.iteV t28 (
K.idxSK 1 t21 t25 fun t29 =>
K.ldK ctx 27 t29 h19 fun t30 =>
K.slowK ctx run (K.opAt Go.Proofs.Tryz.f122 7 5) [18, 22] [t23, t30] h19 fun t31 h32 =>
K.addK (K.binV ctx .add 3 true t25 (.int .i64 (.ofNat 1))) t25 (.int .i64 (.ofNat 1)) fun t33 =>
s20 [t21, t31, t33] m18 h32) (
j13 [t23] m18 h19))) [t6, t9, (.int .i64 (.ofNat 1))] m3 h4)) fun j5 =>
K.lenVK t0 fun t34 =>
K.ltK (K.binV ctx .lss 3 true t34 (.int .i64 (.ofNat 1))) t34 (.int .i64 (.ofNat 1)) fun t35 =>
K.iteV t35 (
K.slowK ctx run (K.opAt Go.Proofs.Tryz.f122 2 1) [8] [(.iface 9 (.str [115, 108, 105, 99, 101, 115, 46, 77, 97, 120, 58, 32, 101, 109, 112, 116, 121, 32, 108, 105, 115, 116]))] h fun t36 h37 =>
j5 [t0] [] h37) (
j5 [t0] [] h))
noncomputable def r123 : K.KRun → List AV → H → K.KR := fun run args h => K.uncons args fun t0 l1 => K.unnil l1 (
K.lenTK t0 fun t2 =>
K.geK (K.binV ctx .geq 3 true t2 (.int .i64 (.ofNat 1))) t2 (.int .i64 (.ofNat 1)) fun t3 =>
K.letK (fun (t4 : AV) (h5 : H) => K.letK (fun (t7 : AV) (h8 : H) => K.letK (fun (t10 : AV) (h11 : H) => K.pickK t3 t10 (.bool false) fun t13 =>
K.letK (fun (t14 : AV) (h15 : H) => K.letK (fun (t17 : AV) (h18 : H) => K.letK (fun (t20 : AV) (h21 : H) => K.pickK t13 t20 (.bool false) fun t23 =>
K.letK (fun (t24 : AV) (h25 : H) => K.letK (fun (t27 : AV) (h28 : H) => K.pickK t23 t27 (.bool false) fun t30 =>
K.letK (fun (t31 : AV) (h32 : H) => K.letK (fun (t34 : AV) (h35 : H) => K.pickK t30 t34 (.bool false) fun t37 =>
K.unmarkK [] h35 fun h38 => .ok t37 h38) fun j36 =>
K.guK true t30 (K.neK (K.binV ctx .neq 9 true t31 (.str [46, 46])) t31 (.str [46, 46]) fun t39 =>
j36 t39 h32) (j36 (.tup []) h32)) fun j33 =>
K.guK true t30 (j33 t0 h28) (j33 (.tup []) h28)) fun j29 =>
K.guK true t23 (K.neK (K.binV ctx .neq 9 true t24 (.str [46])) t24 (.str [46]) fun t40 =>
j29 t40 h25) (j29 (.tup []) h25)) fun j26 =>
K.guK true t23 (j26 t0 h21) (j26 (.tup []) h21)) fun j22 =>
K.guK true t13 (K.notK t17 fun t41 =>
j22 t41 h18) (j22 (.tup []) h18)) fun j19 =>
K.guK true t13 (K.callFK run 145 [t14, (.str [47, 0])] h15 fun t42 h43 =>
j19 t42 h43) (j19 (.tup []) h15)) fun j16 =>
K.guK true t13 (j16 t0 h11) (j16 (.tup []) h11)) fun j12 =>
K.guK true t3 (K.leK (K.binV ctx .leq 3 true t7 (.int .i64 (.ofNat 40))) t7 (.int .i64 (.ofNat 40)) fun t44 =>
j12 t44 h8) (j12 (.tup []) h8)) fun j9 =>
K.guK true t3 (K.lenTK t4 fun t45 =>
j9 t45 h5) (j9 (.tup []) h5)) fun j6 =>
K.guK true t3 (j6 t0 h) (j6 (.tup []) h))
noncomputable def r124 : K.KRun → List AV → H → K.KR := fun run args h => K.uncons args fun t0 l1 => K.unnil l1 (
K.callFK run 123 [t0] h fun t2 h3 =>
K.notK t2 fun t4 =>
K.iteV t4 (
K.unmarkK [] h3 fun h5 => .ok (.int .i64 (.ofNat 0)) h5) (
K.callFK run 127 [t0] h3 fun t6 h7 =>
K.callFK run 146 [t6] h7 fun t8 h9 =>
K.oK (K.binV ctx .rem 27 true t8 (.int .u64 (.ofNat 12))) fun t10 =>
K.rK (convA ctx 27 3 t10 h9) fun t11 h12 =>
K.unmarkK [] h12 fun h13 => .ok t11 h13))
noncomputable def r125 : K.KRun → List AV → H → K.KR := fun run args h => K.uncons args fun t0 l1 => K.uncons l1 fun t2 l3 => K.unnil l3 (
K.eqK (K.binV ctx .eql 85 true t0 .nilPtr) t0 .nilPtr fun t4 =>
K.iteV t4 (
K.unmarkK [] h fun h5 => .ok (.tup [(.int .i64 (.ofNat 0)), (.int .i64 (.ofNat 2))]) h5) (
K.letK (fun (l6 : List AV) (m7 : List Nat) (h8 : H) => K.uncons l6 fun t10 l11 => K.uncons l11 fun t12 l13 => K.uncons l13 fun t14 l15 => K.unnil l15 (
K.iteV t14 (
K.unmarkK m7 h8 fun h16 => .ok (.tup [(.int .i64 (.ofNat 0)), (.int .i64 (.ofNat 1))]) h16) (
K.nilK t10 fun t17 =>
K.fldK 0 t17 fun t18 =>
K.ldK ctx 29 t18 h8 fun t19 =>
K.nilK t10 fun t20 =>
K.fldK 1 t20 fun t21 =>
K.ldsK ctx 23 3 t21 h8 fun t22 =>
K.nilK t10 fun t23 =>
K.fldK 4 t23 fun t24 =>
K.ldK ctx 3 t24 h8 fun t25 =>
K.callFK run 40 [t19, t22, t25] h8 fun t26 h27 =>
K.extK t26 0 fun t28 =>
K.extK t26 1 fun t29 =>
K.allocK (K.zN ctx 58) (K.zT ctx 58) h27 fun t30 h31 =>
K.stsK 10 t30 t28 h31 fun h32 =>
K.neK (K.binV ctx .neq 24 true t29 (.int .i64 (.ofNat 0))) t29 (.int .i64 (.ofNat 0)) fun t33 =>
K.iteV t33 (
K.unmarkK m7 h32 fun h34 => .ok (.tup [(.int .i64 (.ofNat 0)), t29]) h34) (
K.callFK run 135 [t10, t12] h32 fun t35 h36 =>
K.extK t35 0 fun t37 =>
K.extK t35 1 fun t38 =>
K.notK t38 fun t39 =>
K.iteV t39 (
K.unmarkK m7 h36 fun h40 => .ok (.tup [(.int .i64 (.ofNat 0)), (.int .i64 (.ofNat 0))]) h40) (
K.nilK t10 fun t41 =>
K.fldK 0 t41 fun t42 =>
K.ldK ctx 29 t42 h36 fun t43 =>
K.callFK run 72 [t43, t37] h36 fun t44 h45 =>
K.nilK t10 fun t46 =>
K.fldK 1 t46 fun t47 =>
K.fldK 2 t47 fun t48 =>
K.ldK ctx 3 t48 h45 fun t49 =>
K.rK (convA ctx 3 27 t49 h45) fun t50 h51 =>
K.geK (K.binV ctx .geq 27 false t44 t50) t44 t50 fun t52 =>
K.iteV t52 (
K.unmarkK m7 h51 fun h53 => .ok (.tup [(.int .i64 (.ofNat 0)), (.int .i64 (.ofNat 4))]) h53) (
K.rK (convA ctx 27 3 t44 h51) fun t54 h55 =>
K.unmarkK m7 h55 fun h56 => .ok (.tup [t54, (.int .i64 (.ofNat 0))]) h56)))))) fun j9 =>
K.ltK (K.binV ctx .lss 3 true t2 (.int .i64 (.ofNat 0))) t2 (.int .i64 (.ofNat 0)) fun t57 =>
K.iteV t57 (
j9 [t0, t2, t57] [] h) (
K.geK (K.binV ctx .geq 3 true t2 (.int .i64 (.ofNat 12))) t2 (.int .i64 (.ofNat 12)) fun t58 =>
j9 [t0, t2, t58] [] h)))
noncomputable def r126 : K.KRun → List AV → H → K.KR := fun run args h => K.uncons args fun t0 l1 => K.uncons l1 fun t2 l3 => K.unnil l3 (
K.callFK run 125 [t0, t2] h fun t4 h5 =>
K.extK t4 0 fun t6 =>
K.extK t4 1 fun t7 =>
K.neK (K.binV ctx .neq 24 true t7 (.int .i64 (.ofNat 0))) t7 (.int .i64 (.ofNat 0)) fun t8 =>
K.letK (fun (t9 : AV) (h10 : H) => K.letK (fun (t12 : AV) (h13 : H) => K.pickK t8 (.bool true) t12 fun t15 =>
K.iteV t15 (
K.unmarkK [] h13 fun h16 => .ok (.tup [t6, t7]) h16) (
K.nilK t0 fun t17 =>
K.fldK 0 t17 fun t18 =>
K.ldK ctx 29 t18 h13 fun t19 =>
K.nilK t0 fun t20 =>
K.fldK 1 t20 fun t21 =>
K.ldsK ctx 23 3 t21 h13 fun t22 =>
K.callFK run 26 [t19, t22] h13 fun t23 h24 =>
K.extK t23 0 fun t25 =>
K.extK t23 1 fun t26 =>
K.neK (K.binV ctx .neq 24 true t26 (.int .i64 (.ofNat 0))) t26 (.int .i64 (.ofNat 0)) fun t27 =>
K.iteV t27 (
K.unmarkK [] h24 fun h28 => .ok (.tup [(.int .i64 (.ofNat 0)), t26]) h28) (
K.callFK run 147 [t25] h24 fun t29 h30 =>
K.extK t29 0 fun t31 =>
K.extK t29 1 fun t32 =>
K.callFK run 148 [t0, t2] h30 fun t33 h34 =>
K.ltK (K.binV ctx .lss 3 false t32 t33) t32 t33 fun t35 =>
K.iteV t35 (
K.unmarkK [] h34 fun h36 => .ok (.tup [(.int .i64 (.ofNat 0)), (.int .i64 (.ofNat 7))]) h36) (
K.callFK run 135 [t0, t2] h34 fun t37 h38 =>
K.extK t37 0 fun t39 =>
K.extK t37 1 fun t40 =>
K.letK (fun (l41 : List AV) (m42 : List Nat) (h43 : H) => K.uncons l41 fun t45 l46 => K.uncons l46 fun t47 l48 => K.unnil l48 (
K.callFK run 149 [t45, t47] h43 fun t49 h50 =>
K.extK t49 0 fun t51 =>
K.extK t49 1 fun t52 =>
K.unmarkK m42 h50 fun h53 => .ok (.tup [t51, t52]) h53)) fun j44 =>
K.notK t40 fun t54 =>
K.iteV t54 (
K.callFK run 139 [t0, (.int .i64 (.ofNat 8))] h38 fun t55 h56 =>
K.callFK run 149 [t0, t55] h56 fun t57 h58 =>
K.extK t57 0 fun t59 =>
K.extK t57 1 fun t60 =>
K.neK (K.binV ctx .neq 24 true t60 (.int .i64 (.ofNat 0))) t60 (.int .i64 (.ofNat 0)) fun t61 =>
K.iteV t61 (
K.unmarkK [] h58 fun h62 => .ok (.tup [(.int .i64 (.ofNat 0)), t60]) h62) (
K.callFK run 135 [t0, t2] h58 fun t63 h64 =>
K.extK t63 0 fun t65 =>
K.extK t63 1 fun t66 =>
j44 [t0, t65] [] h64)) (
j44 [t0, t39] [] h38))))) fun j14 =>
K.guK false t8 (K.neK (K.binV ctx .neq 3 true t9 (.int .i64 (.ofNat 0))) t9 (.int .i64 (.ofNat 0)) fun t67 =>
j14 t67 h10) (j14 (.tup []) h10)) fun j11 =>
K.guK false t8 (j11 t6 h5) (j11 (.tup []) h5))
noncomputable def r127 : K.KRun → List AV → H → K.KR := fun run args h => K.uncons args fun t0 l1 => K.unnil l1 (
K.allocK (K.zN ctx 31) (K.zT ctx 31) h fun t2 h3 =>
K.letK (fun (l4 : List AV) (m5 : List Nat) (h6 : H) => K.uncons l4 fun t8 l9 => K.unnil l9 (
K.ldK ctx 31 t8 h6 fun t10 =>
K.stK t8 t10 h6 fun h11 =>
K.unmarkK m5 h11 fun h12 => K.asPtr t8 fun n13 n14 => K.load1 h12 n13 n14 fun t15 => .ok t15 h12)) fun j7 =>
K.rK (convA ctx 9 193 t0 h3) fun t16 h17 =>
K.callFK run 150 [t16, (.int .i64 (.ofNat 8))] h17 fun t18 h19 =>
K.hNew h19 .marks fun r20 h21 => K.hNew h21 (.loop .ready none (K.mkT [2, 9] [t2, t18]) 6 r20) fun n22 h23 =>
K.rngK ctx run t18 n22 h23 (fun h25 => j7 [t2] (r20 :: []) h25) (fun h26 => K.unmarkK (r20 :: []) h26 fun h29 => K.asPtr t2 fun n30 n31 => K.load1 h29 n30 n31 fun t32 => .ok t32 h29) fun i24 h27 => (Bool.rec (motive := fun _ => K.KR) (.bad) (j7 [t2] (r20 :: []) h27) (Nat.beq i24 0)))
noncomputable def r128 : K.KRun → List AV → H → K.KR := fun run args h => K.uncons args fun t0 l1 => K.uncons l1 fun t2 l3 => K.unnil l3 (
K.boxK t0 h fun t4 h5 =>
K.ldsK ctx 23 3 t4 h5 fun t6 =>
K.callFK run 99 [t6, (.int .u8 (.ofNat 9)), t2] h5 fun t7 h8 =>
K.unmarkK [] h8 fun h9 => .ok t7 h9)
noncomputable def r129 : K.KRun → List AV → H → K.KR := fun run args h => K.unnil args (
K.unmarkK [] h fun h0 => .ok (.int .i64 (.ofNat 264)) h0)
noncomputable def r130 : K.KRun → List AV → H → K.KR := fun run args h => K.uncons args fun t0 l1 => K.uncons l1 fun t2 l3 => K.unnil l3 (
K.callFK run 152 [t0, t2] h fun t4 h5 =>
K.unmarkK [] h5 fun h6 => .ok t4 h6)
noncomputable def r131 : K.KRun → List AV → H → K.KR := fun run args h => K.uncons args fun t0 l1 => K.unnil l1 (
K.boxK t0 h fun t2 h3 =>
K.unmarkK [] h3 fun h4 => .ok (.func (.func 153) [] [t2]) h4)
noncomputable def r132 : K.KRun → List AV → H → K.KR := fun run args h => K.uncons args fun t0 l1 => K.uncons l1 fun t2 l3 => K.unnil l3 (
K.loopV (nat_lit 1000000) (fun s7 l4 m5 h6 => K.uncons l4 fun t8 l9 => K.uncons l9 fun t10 l11 => K.uncons l11 fun t12 l13 => K.unnil l13 (
K.ltK (K.binV ctx .lss 3 true t12 (.int .i64 (.ofNat 12))) t12 (.int .i64 (.ofNat 12)) fun t14 =>
K.iteV t14 (
K.ldK ctx 3 t10 h6 fun t15 =>
K.addK (K.binV ctx .add 3 false t15 t12) t15 t12 fun t16 =>
K.oK (K.binV ctx .rem 3 true t16 (.int .i64 (.ofNat 12))) fun t17 =>
K.callVK run t8 [t17] h6 fun t18 h19 =>
K.notK t18 fun t20 =>
K.iteV t20 (
K.unmarkK m5 h19 fun h21 => .ok (.tup []) h21) (
K.addK (K.binV ctx .add 3 true t12 (.int .i64 (.ofNat 1))) t12 (.int .i64 (.ofNat 1)) fun t22 =>
s7 [t8, t10, t22] m5 h19)) (
K.unmarkK m5 h6 fun h23 => .ok (.tup []) h23))) [t0, t2, (.int .i64 (.ofNat 0))] [] h)
noncomputable def r133 : K.KRun → List AV → H → K.KR := fun run args h => K.uncons args fun t0 l1 => K.uncons l1 fun t2 l3 => K.unnil l3 (
K.ltK (K.binV ctx .lss 3 true t2 (.int .i64 (.ofNat 0))) t2 (.int .i64 (.ofNat 0)) fun t4 =>
K.letK (fun (t5 : AV) (h6 : H) => K.letK (fun (t8 : AV) (h9 : H) => K.letK (fun (t11 : AV) (h12 : H) => K.letK (fun (t14 : AV) (h15 : H) => K.letK (fun (t17 : AV) (h18 : H) => K.pickK t4 (.bool true) t17 fun t20 =>
K.iteV t20 (
K.unmarkK [] h18 fun h21 => .ok (.tup [(.str []), (.int .i64 (.ofNat 1))]) h21) (
K.mslK ctx 5 1 t2 t2 h18 fun t22 h23 =>
K.letK (fun (l24 : List AV) (m25 : List Nat) (h26 : H) => K.uncons l24 fun t28 l29 => K.unnil l29 (
K.rK (convA ctx 193 9 t28 h26) fun t30 h31 =>
K.unmarkK m25 h31 fun h32 => .ok (.tup [t30, (.int .i64 (.ofNat 0))]) h32)) fun j27 =>
K.lenVK t22 fun t33 =>
K.loopV (nat_lit 1000000) (fun s37 l34 m35 h36 => K.uncons l34 fun t38 l39 => K.uncons l39 fun t40 l41 => K.uncons l41 fun t42 l43 => K.uncons l43 fun t44 l45 => K.unnil l45 (
K.ltK (K.binV ctx .lss 3 false t44 t42) t44 t42 fun t46 =>
K.iteV t46 (
K.oK (K.binV ctx .quo 3 true t44 (.int .i64 (.ofNat 8))) fun t47 =>
K.idxSK 1 t38 t47 fun t48 =>
K.ldK ctx 27 t48 h36 fun t49 =>
K.oK (K.binV ctx .rem 3 true t44 (.int .i64 (.ofNat 8))) fun t50 =>
K.mulK (K.binV ctx .mul 3 true (.int .i64 (.ofNat 8)) t50) (.int .i64 (.ofNat 8)) t50 fun t51 =>
K.oK (K.binV ctx .shr 27 false t49 t51) fun t52 =>
K.rK (convA ctx 27 5 t52 h36) fun t53 h54 =>
K.idxSK 1 t40 t44 fun t55 =>
K.stK t55 t53 h54 fun h56 =>
K.addK (K.binV ctx .add 3 true t44 (.int .i64 (.ofNat 1))) t44 (.int .i64 (.ofNat 1)) fun t57 =>
s37 [t38, t40, t42, t57] m35 h56) (
j27 [t40] m35 h36))) [t0, t22, t33, (.int .i64 (.ofNat 0))] [] h23)) fun j19 =>
K.guK false t4 (K.gtK (K.binV ctx .gtr 3 false t5 t14) t5 t14 fun t58 =>
j19 t58 h15) (j19 (.tup []) h15)) fun j16 =>
K.guK false t4 (K.mulK (K.binV ctx .mul 3 true (.int .i64 (.ofNat 8)) t11) (.int .i64 (.ofNat 8)) t11 fun t59 =>
j16 t59 h12) (j16 (.tup []) h12)) fun j13 =>
K.guK false t4 (K.lenVK t8 fun t60 =>
j13 t60 h9) (j13 (.tup []) h9)) fun j10 =>
K.guK false t4 (j10 t0 h6) (j10 (.tup []) h6)) fun j7 =>
K.guK false t4 (j7 t2 h) (j7 (.tup []) h))
noncomputable def r135 : K.KRun → List AV → H → K.KR := fun run args h => K.uncons args fun t0 l1 => K.uncons l1 fun t2 l3 => K.unnil l3 (
K.letK (fun (l4 : List AV) (m5 : List Nat) (h6 : H) => K.uncons l4 fun t8 l9 => K.uncons l9 fun t10 l11 => K.unnil l11 (
K.callVK run t10 [t8] h6 fun t12 h13 =>
K.extK t12 0 fun t14 =>
K.extK t12 1 fun t15 =>
K.unmarkK m5 h13 fun h16 => .ok (.tup [t14, t15]) h16)) fun j7 =>
K.geK (K.binV ctx .geq 3 true t2 (.int .i64 (.ofNat 4))) t2 (.int .i64 (.ofNat 4)) fun t17 =>
K.iteV t17 (
j7 [t2, (.func (.func 156) [t0] [])] [] h) (
j7 [t2, (.func (.func 155) [t0] [])] [] h))
noncomputable def r136 : K.KRun → List AV → H → K.KR := fun run args h => K.uncons args fun t0 l1 => K.uncons l1 fun t2 l3 => K.uncons l3 fun t4 l5 => K.unnil l5 (
K.nilK t0 fun t6 =>
K.fldK 0 t6 fun t7 =>
K.ldK ctx 29 t7 h fun t8 =>
K.nilK t0 fun t9 =>
K.fldK 1 t9 fun t10 =>
K.ldsK ctx 23 3 t10 h fun t11 =>
K.callFK run 26 [t8, t11] h fun t12 h13 =>
K.extK t12 0 fun t14 =>
K.extK t12 1 fun t15 =>
K.letK (fun (l16 : List AV) (m17 : List Nat) (h18 : H) => K.uncons l16 fun t20 l21 => K.uncons l21 fun t22 l23 => K.uncons l23 fun t24 l25 => K.unnil l25 (
K.letK (fun (l26 : List AV) (m27 : List Nat) (h28 : H) => K.uncons l26 fun t30 l31 => K.unnil l31 (
K.unmarkK m27 h28 fun h32 => .ok t30 h32)) fun j29 =>
K.eqK (K.binV ctx .eql 24 true t24 (.int .i64 (.ofNat 0))) t24 (.int .i64 (.ofNat 0)) fun t33 =>
K.iteV t33 (
K.nilK t20 fun t34 =>
K.fldK 0 t34 fun t35 =>
K.ldK ctx 29 t35 h18 fun t36 =>
K.callFK run 43 [t36, t22, (.int .u64 (.ofNat 0))] h18 fun t37 h38 =>
j29 [t37] m17 h38) (
j29 [t24] m17 h18))) fun j19 =>
K.eqK (K.binV ctx .eql 24 true t15 (.int .i64 (.ofNat 0))) t15 (.int .i64 (.ofNat 0)) fun t39 =>
K.iteV t39 (
K.callFK run 157 [t14, t4] h13 fun t40 h41 =>
j19 [t0, t2, t40] [] h41) (
j19 [t0, t2, t15] [] h13))
noncomputable def r137 : K.KRun → List AV → H → K.KR := fun run args h => K.uncons args fun t0 l1 => K.unnil l1 (
K.nilK t0 fun t2 =>
K.fldK 0 t2 fun t3 =>
K.ldK ctx 29 t3 h fun t4 =>
K.callFK run 139 [t0, (.int .i64 (.ofNat 8))] h fun t5 h6 =>
K.ldK ctx 29 t3 h6 fun t7 =>
K.req (AV.same t4 t7) (
K.callFK run 72 [t4, t5] h6 fun t8 h9 =>
K.rK (convA ctx 27 3 t8 h9) fun t10 h11 =>
K.unmarkK [] h11 fun h12 => .ok t10 h12))
noncomputable def r138 : K.KRun → List AV → H → K.KR := fun run args h => K.uncons args fun t0 l1 => K.uncons l1 fun t2 l3 => K.unnil l3 (
K.letK (fun (l4 : List AV) (m5 : List Nat) (h6 : H) => K.unnil l4 (
K.unmarkK m5 h6 fun h8 => .ok (.bool true) h8)) fun j7 =>
K.loopV (nat_lit 1000000) (fun s12 l9 m10 h11 => K.uncons l9 fun t13 l14 => K.uncons l14 fun t15 l16 => K.uncons l16 fun t17 l18 => K.unnil l18 (
K.ltK (K.binV ctx .lss 3 true t17 (.int .i64 (.ofNat 8))) t17 (.int .i64 (.ofNat 8)) fun t19 =>
K.iteV t19 (
K.nilK t13 fun t20 =>
K.fldK 0 t20 fun t21 =>
K.ldK ctx 29 t21 h11 fun t22 =>
K.nilK t13 fun t23 =>
K.fldK 1 t23 fun t24 =>
K.ldsK ctx 23 3 t24 h11 fun t25 =>
K.callFK run 128 [t25, t15] h11 fun t26 h27 =>
K.ldK ctx 29 t21 h27 fun t28 =>
K.req (AV.same t22 t28) (
K.addK (K.binV ctx .add 3 false t26 t17) t26 t17 fun t29 =>
K.callFK run 72 [t22, t29] h27 fun t30 h31 =>
K.neK (K.binV ctx .neq 27 true t30 (.int .u64 (.ofNat 0))) t30 (.int .u64 (.ofNat 0)) fun t32 =>
K.iteV t32 (
K.unmarkK m10 h31 fun h33 => .ok (.bool false) h33) (
K.addK (K.binV ctx .add 3 true t17 (.int .i64 (.ofNat 1))) t17 (.int .i64 (.ofNat 1)) fun t34 =>
s12 [t13, t15, t34] m10 h31))) (
j7 [] m10 h11))) [t0, t2, (.int .i64 (.ofNat 0))] [] h)
noncomputable def r139 : K.KRun → List AV → H → K.KR := fun run args h => K.uncons args fun t0 l1 => K.uncons l1 fun t2 l3 => K.unnil l3 (
K.nilK t0 fun t4 =>
K.fldK 1 t4 fun t5 =>
K.ldsK ctx 23 3 t5 h fun t6 =>
K.nilK t0 fun t7 =>
K.fldK 4 t7 fun t8 =>
K.ldK ctx 3 t8 h fun t9 =>
K.callFK run 44 [t6, t9] h fun t10 h11 =>
K.addK (K.binV ctx .add 3 false t10 t2) t10 t2 fun t12 =>
K.unmarkK [] h11 fun h13 => .ok t12 h13)
noncomputable def r140 : K.KRun → List AV → H → K.KR := fun run args h => K.uncons args fun t0 l1 => K.uncons l1 fun t2 l3 => K.unnil l3 (
K.callFK run 143 [t0, t2] h fun t4 h5 =>
K.notK t4 fun t6 =>
K.iteV t6 (
K.unmarkK [] h5 fun h7 => .ok (.bool false) h7) (
K.callFK run 144 [t0, t2] h5 fun t8 h9 =>
K.extK t8 0 fun t10 =>
K.extK t8 1 fun t11 =>
K.nilK t0 fun t12 =>
K.fldK 0 t12 fun t13 =>
K.ldK ctx 29 t13 h9 fun t14 =>
K.callFK run 72 [t14, t10] h9 fun t15 h16 =>
K.oK (K.binV ctx .and 27 false t15 t11) fun t17 =>
K.neK (K.binV ctx .neq 27 true t17 (.int .u64 (.ofNat 0))) t17 (.int .u64 (.ofNat 0)) fun t18 =>
K.unmarkK [] h16 fun h19 => .ok t18 h19))
noncomputable def r141 : K.KRun → List AV → H → K.KR := fun run args h => K.uncons args fun t0 l1 => K.unnil l1 (
K.boxK t0 h fun t2 h3 =>
K.unmarkK [] h3 fun h4 => .ok (.func (.func 158) [] [t2]) h4)
noncomputable def r142 : K.KRun → List AV → H → K.KR := fun run args h => K.uncons args fun t0 l1 => K.unnil l1 (
K.eqK (K.binV ctx .eql 27 true t0 (.int .u64 (.ofNat 0))) t0 (.int .u64 (.ofNat 0)) fun t2 =>
K.iteV t2 (
K.unmarkK [] h fun h3 => .ok (.int .i64 (.ofNat 64)) h3) (
K.oK (unA .neg t0) fun t4 =>
K.oK (K.binV ctx .and 27 false t0 t4) fun t5 =>
K.mulK (K.binV ctx .mul 27 true t5 (.int .u64 (.ofNat 285870213051353865))) t5 (.int .u64 (.ofNat 285870213051353865)) fun t6 =>
K.oK (K.binV ctx .shr 27 true t6 (.int .u64 (.ofNat 58))) fun t7 =>
K.idxAK 64 1 (.gptr 1 0) t7 fun t8 =>
K.ldK ctx 5 t8 h fun t9 =>
K.rK (convA ctx 5 3 t9 h) fun t10 h11 =>
K.unmarkK [] h11 fun h12 => .ok t10 h12))
noncomputable def r143 : K.KRun → List AV → H → K.KR := fun run args h => K.uncons args fun t0 l1 => K.uncons l1 fun t2 l3 => K.unnil l3 (
K.neK (K.binV ctx .neq 108 true t0 .nilPtr) t0 .nilPtr fun t4 =>
K.letK (fun (t5 : AV) (h6 : H) => K.letK (fun (t8 : AV) (h9 : H) => K.pickK t4 t8 (.bool false) fun t11 =>
K.letK (fun (t12 : AV) (h13 : H) => K.letK (fun (t15 : AV) (h16 : H) => K.letK (fun (t18 : AV) (h19 : H) => K.letK (fun (t21 : AV) (h22 : H) => K.letK (fun (t24 : AV) (h25 : H) => K.letK (fun (t27 : AV) (h28 : H) => K.pickK t11 t27 (.bool false) fun t30 =>
K.unmarkK [] h28 fun h31 => .ok t30 h31) fun j29 =>
K.guK true t11 (K.ltK (K.binV ctx .lss 3 false t12 t24) t12 t24 fun t32 =>
j29 t32 h25) (j29 (.tup []) h25)) fun j26 =>
K.guK true t11 (K.ldK ctx 3 t21 h22 fun t33 =>
j26 t33 h22) (j26 (.tup []) h22)) fun j23 =>
K.guK true t11 (K.fldK 2 t18 fun t34 =>
j23 t34 h19) (j23 (.tup []) h19)) fun j20 =>
K.guK true t11 (K.nilK t15 fun t35 =>
j20 t35 h16) (j20 (.tup []) h16)) fun j17 =>
K.guK true t11 (j17 t0 h13) (j17 (.tup []) h13)) fun j14 =>
K.guK true t11 (j14 t2 h9) (j14 (.tup []) h9)) fun j10 =>
K.guK true t4 (K.geK (K.binV ctx .geq 3 true t5 (.int .i64 (.ofNat 0))) t5 (.int .i64 (.ofNat 0)) fun t36 =>
j10 t36 h6) (j10 (.tup []) h6)) fun j7 =>
K.guK true t4 (j7 t2 h) (j7 (.tup []) h))
noncomputable def r144 : K.KRun → List AV → H → K.KR := fun run args h => K.uncons args fun t0 l1 => K.uncons l1 fun t2 l3 => K.unnil l3 (
K.nilK t0 fun t4 =>
K.fldK 1 t4 fun t5 =>
K.ldK ctx 3 t5 h fun t6 =>
K.oK (K.binV ctx .quo 3 true t2 (.int .i64 (.ofNat 64))) fun t7 =>
K.addK (K.binV ctx .add 3 false t6 t7) t6 t7 fun t8 =>
K.oK (K.binV ctx .rem 3 true t2 (.int .i64 (.ofNat 64))) fun t9 =>
K.oK (K.binV ctx .shl 27 true (.int .u64 (.ofNat 1)) t9) fun t10 =>
K.unmarkK [] h fun h11 => .ok (.tup [t8, t10]) h11)
noncomputable def r145 : K.KRun → List AV → H → K.KR := fun run args h => K.uncons args fun t0 l1 => K.uncons l1 fun t2 l3 => K.unnil l3 (
K.callFK run 159 [t0, t2] h fun t4 h5 =>
K.geK (K.binV ctx .geq 3 true t4 (.int .i64 (.ofNat 0))) t4 (.int .i64 (.ofNat 0)) fun t6 =>
K.unmarkK [] h5 fun h7 => .ok t6 h7)
noncomputable def r146 : K.KRun → List AV → H → K.KR := fun run args h => K.uncons args fun t0 l1 => K.unnil l1 (
K.callFK run 160 [] h fun t2 h3 =>
K.allocK (K.zN ctx 205) (K.zT ctx 205) h3 fun t4 h5 =>
K.stK t4 (.func (.func 161) [t2] []) h5 fun h6 =>
K.letK (fun (l7 : List AV) (m8 : List Nat) (h9 : H) => K.uncons l7 fun t11 l12 => K.unnil l12 (
K.callFK run 163 [t11] h9 fun t13 h14 =>
K.unmarkK m8 h14 fun h15 => .ok t13 h15)) fun j10 =>
K.callFK run 162 [t0] h6 fun t16 h17 =>
K.hNew h17 .marks fun r18 h19 => K.hNew h19 (.loop .ready none (K.mkT [3, 4, 10] [t2, t4, t16]) 7 r18) fun n20 h21 =>
K.rngK ctx run t16 n20 h21 (fun h23 => j10 [t2] (r18 :: []) h23) (fun h24 => K.unmarkK (r18 :: []) h24 fun h27 => .bad) fun i22 h25 => (Bool.rec (motive := fun _ => K.KR) (.bad) (j10 [t2] (r18 :: []) h25) (Nat.beq i22 0)))
noncomputable def r147 : K.KRun → List AV → H → K.KR := fun run args h => K.uncons args fun t0 l1 => K.unnil l1 (
K.eqK (K.binV ctx .eql 52 true t0 .nilPtr) t0 .nilPtr fun t2 =>
K.iteV t2 (
K.unmarkK [] h fun h3 => .ok (.tup [(.int .i64 (.ofNat 0)), (.int .i64 (.ofNat 0))]) h3) (
K.nilK t0 fun t4 =>
K.fldK 4 t4 fun t5 =>
K.ldsK ctx 112 2 t5 h fun t6 =>
K.nilK t0 fun t7 =>
K.fldK 6 t7 fun t8 =>
K.ldsK ctx 112 2 t8 h fun t9 =>
K.callFK run 164 [t6] h fun t10 h11 =>
K.ldsK ctx 112 2 t8 h11 fun t12 =>
K.req (AV.same t9 t12) (
K.callFK run 164 [t9] h11 fun t13 h14 =>
K.unmarkK [] h14 fun h15 => .ok (.tup [t10, t13]) h15)))
noncomputable def r148 : K.KRun → List AV → H → K.KR := fun run args h => K.uncons args fun t0 l1 => K.uncons l1 fun t2 l3 => K.unnil l3 (
K.callFK run 125 [t0, t2] h fun t4 h5 =>
K.extK t4 0 fun t6 =>
K.extK t4 1 fun t7 =>
K.neK (K.binV ctx .neq 24 true t7 (.int .i64 (.ofNat 0))) t7 (.int .i64 (.ofNat 0)) fun t8 =>
K.letK (fun (t9 : AV) (h10 : H) => K.letK (fun (t12 : AV) (h13 : H) => K.pickK t8 (.bool true) t12 fun t15 =>
K.iteV t15 (
K.unmarkK [] h13 fun h16 => .ok (.int .i64 (.ofNat 0)) h16) (
K.callFK run 135 [t0, t2] h13 fun t17 h18 =>
K.extK t17 0 fun t19 =>
K.extK t17 1 fun t20 =>
K.notK t20 fun t21 =>
K.iteV t21 (
K.unmarkK [] h18 fun h22 => .ok (.int .i64 (.ofNat 2)) h22) (
K.unmarkK [] h18 fun h23 => .ok (.int .i64 (.ofNat 1)) h23))) fun j14 =>
K.guK false t8 (K.neK (K.binV ctx .neq 3 true t9 (.int .i64 (.ofNat 0))) t9 (.int .i64 (.ofNat 0)) fun t24 =>
j14 t24 h10) (j14 (.tup []) h10)) fun j11 =>
K.guK false t8 (j11 t6 h5) (j11 (.tup []) h5))
noncomputable def r149 : K.KRun → List AV → H → K.KR := fun run args h => K.uncons args fun t0 l1 => K.uncons l1 fun t2 l3 => K.unnil l3 (
K.nilK t0 fun t4 =>
K.fldK 0 t4 fun t5 =>
K.ldK ctx 29 t5 h fun t6 =>
K.nilK t0 fun t7 =>
K.fldK 1 t7 fun t8 =>
K.ldsK ctx 23 3 t8 h fun t9 =>
K.callFK run 26 [t6, t9] h fun t10 h11 =>
K.extK t10 0 fun t12 =>
K.extK t10 1 fun t13 =>
K.neK (K.binV ctx .neq 24 true t13 (.int .i64 (.ofNat 0))) t13 (.int .i64 (.ofNat 0)) fun t14 =>
K.iteV t14 (
K.unmarkK [] h11 fun h15 => .ok (.tup [(.int .i64 (.ofNat 0)), t13]) h15) (
K.callFK run 165 [t12] h11 fun t16 h17 =>
K.extK t16 0 fun t18 =>
K.extK t16 1 fun t19 =>
K.letK (fun (l20 : List AV) (m21 : List Nat) (h22 : H) => K.uncons l20 fun t24 l25 => K.uncons l25 fun t26 l27 => K.uncons l27 fun t28 l29 => K.uncons l29 fun t30 l31 => K.unnil l31 (
K.letK (fun (l32 : List AV) (m33 : List Nat) (h34 : H) => K.uncons l32 fun t36 l37 => K.uncons l37 fun t38 l39 => K.unnil l39 (
K.neK (K.binV ctx .neq 24 true t36 (.int .i64 (.ofNat 0))) t36 (.int .i64 (.ofNat 0)) fun t40 =>
K.iteV t40 (
K.unmarkK m33 h34 fun h41 => .ok (.tup [(.int .i64 (.ofNat 0)), t36]) h41) (
K.unmarkK m33 h34 fun h42 => .ok (.tup [t38, (.int .i64 (.ofNat 0))]) h42))) fun j35 =>
K.eqK (K.binV ctx .eql 24 true t28 (.int .i64 (.ofNat 0))) t28 (.int .i64 (.ofNat 0)) fun t43 =>
K.iteV t43 (
K.nilK t24 fun t44 =>
K.fldK 0 t44 fun t45 =>
K.ldK ctx 29 t45 h22 fun t46 =>
K.rK (convA ctx 3 27 t30 h22) fun t47 h48 =>
K.callFK run 43 [t46, t26, t47] h48 fun t49 h50 =>
j35 [t49, t30] m21 h50) (
j35 [t28, t30] m21 h22))) fun j23 =>
K.eqK (K.binV ctx .eql 24 true t19 (.int .i64 (.ofNat 0))) t19 (.int .i64 (.ofNat 0)) fun t51 =>
K.letK (fun (t52 : AV) (h53 : H) => K.letK (fun (t55 : AV) (h56 : H) => K.pickK t51 t55 (.bool false) fun t58 =>
K.iteV t58 (
j23 [t0, t2, (.int .i64 (.ofNat 4)), t18] [] h56) (
j23 [t0, t2, t19, t18] [] h56)) fun j57 =>
K.guK true t51 (K.eqK (K.binV ctx .eql 3 true t52 (.int .i64 (.ofNat 0))) t52 (.int .i64 (.ofNat 0)) fun t59 =>
j57 t59 h53) (j57 (.tup []) h53)) fun j54 =>
K.guK true t51 (j54 t18 h17) (j54 (.tup []) h17)))
noncomputable def r150 : K.KRun → List AV → H → K.KR := fun run args h => K.uncons args fun t0 l1 => K.uncons l1 fun t2 l3 => K.unnil l3 (
K.boxK t0 h fun t4 h5 =>
K.boxK t2 h5 fun t6 h7 =>
K.letK (fun (l8 : List AV) (m9 : List Nat) (h10 : H) => K.uncons l8 fun t12 l13 => K.uncons l13 fun t14 l15 => K.unnil l15 (
K.unmarkK m9 h10 fun h16 => .ok (.func (.func 166) [] [t12, t14]) h16)) fun j11 =>
K.ldK ctx 3 t6 h7 fun t17 =>
K.ltK (K.binV ctx .lss 3 true t17 (.int .i64 (.ofNat 1))) t17 (.int .i64 (.ofNat 1)) fun t18 =>
K.iteV t18 (
K.slowK ctx run (K.opAt Go.Proofs.Tryz.f150 2 1) [7] [(.iface 9 (.str [99, 97, 110, 110, 111, 116, 32, 98, 101, 32, 108, 101, 115, 115, 32, 116, 104, 97, 110, 32, 49]))] h7 fun t19 h20 =>
j11 [t4, t6] [] h20) (
j11 [t4, t6] [] h7))
end YtpfgllikhklnoaaGreatDoorRnM
