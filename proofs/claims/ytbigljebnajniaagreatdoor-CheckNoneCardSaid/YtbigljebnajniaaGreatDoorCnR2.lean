/- PRINTED BY Gen2.lean (own): functions as plain texts, part 2. -/
import Derived.Test.YtbigljebnajniaaGreatDoorCnCtx
namespace YtbigljebnajniaaGreatDoorCnM
open Go Am
set_option maxRecDepth 100000
noncomputable def r65 : K.KRun → List AV → H → K.KR := fun run args h => K.uncons args fun t0 l1 => K.uncons l1 fun t2 l3 => K.unnil l3 (
K.boxK t0 h fun t4 h5 =>
K.boxK t2 h5 fun t6 h7 =>
K.ldsK ctx 25 3 t4 h7 fun t8 =>
K.callFK run 12 [t8] h7 fun t9 h10 =>
K.notK t9 fun t11 =>
K.letK (fun (t12 : AV) (h13 : H) => K.letK (fun (t15 : AV) (h16 : H) => K.letK (fun (t18 : AV) (h19 : H) => K.pickK t11 (.bool true) t18 fun t21 =>
K.iteV t21 (
K.unmarkK [] h19 fun h22 => .ok (.bool false) h22) (
K.fldK 4 t6 fun t23 =>
K.slcK ctx 47 t23 none none none h19 fun t24 =>
K.fldK 8 t6 fun t25 =>
K.ldK ctx 37 t25 h19 fun t26 =>
K.bslK ctx 37 1 1 [(0, t26)] h19 fun t27 h28 =>
K.appK ctx 37 1 t24 t27 h28 fun t29 h30 =>
K.fldK 2 t4 fun t31 =>
K.ldK ctx 3 t31 h30 fun t32 =>
K.rK (convA ctx 3 37 t32 h30) fun t33 h34 =>
K.callFK run 80 [t29] h34 fun t35 h36 =>
K.ldK ctx 3 t31 h36 fun t37 =>
K.req (AV.same t32 t37) (
K.geK (K.binV ctx .geq 37 false t35 t33) t35 t33 fun t38 =>
K.letK (fun (t39 : AV) (h40 : H) => K.letK (fun (t42 : AV) (h43 : H) => K.letK (fun (t45 : AV) (h46 : H) => K.letK (fun (t48 : AV) (h49 : H) => K.letK (fun (t51 : AV) (h52 : H) => K.letK (fun (t54 : AV) (h55 : H) => K.pickK t38 (.bool true) t54 fun t57 =>
K.iteV t57 (
K.unmarkK [] h55 fun h58 => .ok (.bool false) h58) (
K.fldK 1 t6 fun t59 =>
K.ldK ctx 37 t59 h55 fun t60 =>
K.gtK (K.binV ctx .gtr 37 true t60 (.int .u64 (.ofNat 65536))) t60 (.int .u64 (.ofNat 65536)) fun t61 =>
K.letK (fun (t62 : AV) (h63 : H) => K.letK (fun (t65 : AV) (h66 : H) => K.letK (fun (t68 : AV) (h69 : H) => K.pickK t61 (.bool true) t68 fun t71 =>
K.letK (fun (t72 : AV) (h73 : H) => K.letK (fun (t75 : AV) (h76 : H) => K.letK (fun (t78 : AV) (h79 : H) => K.pickK t71 (.bool true) t78 fun t81 =>
K.iteV t81 (
K.unmarkK [] h79 fun h82 => .ok (.bool false) h82) (
K.fldK 0 t6 fun t83 =>
K.ldK ctx 37 t83 h79 fun t84 =>
K.eqK (K.binV ctx .eql 37 true t84 (.int .u64 (.ofNat 1))) t84 (.int .u64 (.ofNat 1)) fun t85 =>
K.iteV t85 (
K.fldK 9 t6 fun t86 =>
K.ldK ctx 37 t86 h79 fun t87 =>
K.eqK (K.binV ctx .eql 37 true t87 (.int .u64 (.ofNat 0))) t87 (.int .u64 (.ofNat 0)) fun t88 =>
K.unmarkK [] h79 fun h89 => .ok t88 h89) (
K.eqK (K.binV ctx .eql 37 true t84 (.int .u64 (.ofNat 2))) t84 (.int .u64 (.ofNat 2)) fun t90 =>
K.iteV t90 (
K.fldK 3 t6 fun t91 =>
K.ldK ctx 37 t91 h79 fun t92 =>
K.eqK (K.binV ctx .eql 37 true t92 (.int .u64 (.ofNat 0))) t92 (.int .u64 (.ofNat 0)) fun t93 =>
K.unmarkK [] h79 fun h94 => .ok t93 h94) (
K.unmarkK [] h79 fun h95 => .ok (.bool false) h95)))) fun j80 =>
K.guK false t71 (K.gtK (K.binV ctx .gtr 37 true t75 (.int .u64 (.ofNat 768))) t75 (.int .u64 (.ofNat 768)) fun t96 =>
j80 t96 h76) (j80 (.tup []) h76)) fun j77 =>
K.guK false t71 (K.ldK ctx 37 t72 h73 fun t97 =>
j77 t97 h73) (j77 (.tup []) h73)) fun j74 =>
K.guK false t71 (K.fldK 3 t6 fun t98 =>
j74 t98 h69) (j74 (.tup []) h69)) fun j70 =>
K.guK false t61 (K.gtK (K.binV ctx .gtr 37 true t65 (.int .u64 (.ofNat 16))) t65 (.int .u64 (.ofNat 16)) fun t99 =>
j70 t99 h66) (j70 (.tup []) h66)) fun j67 =>
K.guK false t61 (K.ldK ctx 37 t62 h63 fun t100 =>
j67 t100 h63) (j67 (.tup []) h63)) fun j64 =>
K.guK false t61 (K.fldK 2 t6 fun t101 =>
j64 t101 h55) (j64 (.tup []) h55))) fun j56 =>
K.guK false t38 (K.geK (K.binV ctx .geq 37 false t42 t51) t42 t51 fun t102 =>
j56 t102 h52) (j56 (.tup []) h52)) fun j53 =>
K.guK false t38 (K.rK (convA ctx 3 37 t48 h49) fun t103 h104 =>
j53 t103 h104) (j53 (.tup []) h49)) fun j50 =>
K.guK false t38 (K.ldK ctx 3 t45 h46 fun t105 =>
j50 t105 h46) (j50 (.tup []) h46)) fun j47 =>
K.guK false t38 (K.fldK 1 t4 fun t106 =>
j47 t106 h43) (j47 (.tup []) h43)) fun j44 =>
K.guK false t38 (K.ldK ctx 37 t39 h40 fun t107 =>
j44 t107 h40) (j44 (.tup []) h40)) fun j41 =>
K.guK false t38 (K.fldK 9 t6 fun t108 =>
j41 t108 h36) (j41 (.tup []) h36)))) fun j20 =>
K.guK false t11 (K.eqK (K.binV ctx .eql 49 false t12 t15) t12 t15 fun t109 =>
j20 t109 h16) (j20 (.tup []) h16)) fun j17 =>
K.guK false t11 (K.bldSK ctx 49 [] fun t110 =>
j17 t110 h13) (j17 (.tup []) h13)) fun j14 =>
K.guK false t11 (K.ldsK ctx 49 10 t6 h10 fun t111 =>
j14 t111 h10) (j14 (.tup []) h10))
noncomputable def r66 : K.KRun → List AV → H → K.KR := fun run args h => K.uncons args fun t0 l1 => K.uncons l1 fun t2 l3 => K.unnil l3 (
K.neK (K.binV ctx .neq 51 true t0 .nilPtr) t0 .nilPtr fun t4 =>
K.letK (fun (t5 : AV) (h6 : H) => K.letK (fun (t8 : AV) (h9 : H) => K.pickK t4 t8 (.bool false) fun t11 =>
K.letK (fun (t12 : AV) (h13 : H) => K.letK (fun (t15 : AV) (h16 : H) => K.letK (fun (t18 : AV) (h19 : H) => K.letK (fun (t21 : AV) (h22 : H) => K.letK (fun (t24 : AV) (h25 : H) => K.letK (fun (t27 : AV) (h28 : H) => K.pickK t11 t27 (.bool false) fun t30 =>
K.unmarkK [] h28 fun h31 => .ok t30 h31) fun j29 =>
K.guK true t11 (K.ltK (K.binV ctx .lss 3 false t12 t24) t12 t24 fun t32 =>
j29 t32 h25) (j29 (.tup []) h25)) fun j26 =>
K.guK true t11 (K.ldK ctx 3 t21 h22 fun t33 =>
j26 t33 h22) (j26 (.tup []) h22)) fun j23 =>
K.guK true t11 (K.fldK 2 t18 fun t34 =>
j23 t34 h19) (j23 (.tup []) h19)) fun j20 =>
K.guK true t11 (K.nilK t15 fun t35 =>
j20 t35 h16) (j20 (.tup []) h16)) fun j17 =>
K.guK true t11 (j17 t0 h13) (j17 (.tup []) h13)) fun j14 =>
K.guK true t11 (j14 t2 h9) (j14 (.tup []) h9)) fun j10 =>
K.guK true t4 (K.geK (K.binV ctx .geq 3 true t5 (.int .i64 (.ofNat 0))) t5 (.int .i64 (.ofNat 0)) fun t36 =>
j10 t36 h6) (j10 (.tup []) h6)) fun j7 =>
K.guK true t4 (j7 t2 h) (j7 (.tup []) h))
noncomputable def r67 : K.KRun → List AV → H → K.KR := fun run args h => K.uncons args fun t0 l1 => K.uncons l1 fun t2 l3 => K.unnil l3 (
K.nilK t0 fun t4 =>
K.fldK 1 t4 fun t5 =>
K.ldK ctx 3 t5 h fun t6 =>
K.oK (K.binV ctx .quo 3 true t2 (.int .i64 (.ofNat 64))) fun t7 =>
K.addK (K.binV ctx .add 3 false t6 t7) t6 t7 fun t8 =>
K.oK (K.binV ctx .rem 3 true t2 (.int .i64 (.ofNat 64))) fun t9 =>
K.oK (K.binV ctx .shl 37 true (.int .u64 (.ofNat 1)) t9) fun t10 =>
K.unmarkK [] h fun h11 => .ok (.tup [t8, t10]) h11)
noncomputable def r68 : K.KRun → List AV → H → K.KR := fun run args h => K.uncons args fun t0 l1 => K.uncons l1 fun t2 l3 => K.unnil l3 (
K.callFK run 81 [t2] h fun t4 h5 =>
K.eqK (K.binV ctx .eql 50 true t0 .nilPtr) t0 .nilPtr fun t6 =>
K.iteV t6 (
K.unmarkK [] h5 fun h7 => .ok (.tup [(.int .i64 (.ofNat 0)), (.int .i64 (.ofNat 2))]) h7) (
K.ltK (K.binV ctx .lss 3 true t4 (.int .i64 (.ofNat 0))) t4 (.int .i64 (.ofNat 0)) fun t8 =>
K.iteV t8 (
K.unmarkK [] h5 fun h9 => .ok (.tup [(.int .i64 (.ofNat 0)), (.int .i64 (.ofNat 1))]) h9) (
K.callFK run 61 [t0] h5 fun t10 h11 =>
K.addK (K.binV ctx .add 3 true t4 (.int .i64 (.ofNat 64))) t4 (.int .i64 (.ofNat 64)) fun t12 =>
K.ltK (K.binV ctx .lss 3 false t10 t12) t10 t12 fun t13 =>
K.iteV t13 (
K.unmarkK [] h11 fun h14 => .ok (.tup [(.int .i64 (.ofNat 0)), (.int .i64 (.ofNat 8))]) h14) (
K.unmarkK [] h11 fun h15 => .ok (.tup [t4, (.int .i64 (.ofNat 0))]) h15))))
noncomputable def r69 : K.KRun → List AV → H → K.KR := fun run args h => K.uncons args fun t0 l1 => K.uncons l1 fun t2 l3 => K.unnil l3 (
K.callFK run 82 [t0, t2, (.int .i64 (.ofNat 4)), (.int .i64 (.ofNat 56)), (.int .i64 (.ofNat 2))] h fun t4 h5 =>
K.unmarkK [] h5 fun h6 => .ok t4 h6)
noncomputable def r70 : K.KRun → List AV → H → K.KR := fun run args h => K.uncons args fun t0 l1 => K.uncons l1 fun t2 l3 => K.uncons l3 fun t4 l5 => K.unnil l5 (
K.callFK run 83 [t2, t4] h fun t6 h7 =>
K.neK (K.binV ctx .neq 50 true t0 .nilPtr) t0 .nilPtr fun t8 =>
K.letK (fun (t9 : AV) (h10 : H) => K.letK (fun (t12 : AV) (h13 : H) => K.pickK t8 t12 (.bool false) fun t15 =>
K.iteV t15 (
K.unmarkK [] h13 fun h16 => .ok (.tup [(.int .i64 (.ofNat 0)), (.int .i64 (.ofNat 1))]) h16) (
K.callFK run 68 [t0, t2] h13 fun t17 h18 =>
K.extK t17 0 fun t19 =>
K.extK t17 1 fun t20 =>
K.unmarkK [] h18 fun h21 => .ok (.tup [t6, t20]) h21)) fun j14 =>
K.guK true t8 (K.ltK (K.binV ctx .lss 3 true t9 (.int .i64 (.ofNat 0))) t9 (.int .i64 (.ofNat 0)) fun t22 =>
j14 t22 h10) (j14 (.tup []) h10)) fun j11 =>
K.guK true t8 (j11 t6 h7) (j11 (.tup []) h7))
noncomputable def r73 : K.KRun → List AV → H → K.KR := fun run args h => K.uncons args fun t0 l1 => K.uncons l1 fun t2 l3 => K.unnil l3 (
K.geK (K.binV ctx .geq 3 true t2 (.int .i64 (.ofNat 0))) t2 (.int .i64 (.ofNat 0)) fun t4 =>
K.letK (fun (t5 : AV) (h6 : H) => K.letK (fun (t8 : AV) (h9 : H) => K.letK (fun (t11 : AV) (h12 : H) => K.letK (fun (t14 : AV) (h15 : H) => K.pickK t4 t14 (.bool false) fun t17 =>
K.unmarkK [] h15 fun h18 => .ok t17 h18) fun j16 =>
K.guK true t4 (K.ltK (K.binV ctx .lss 3 false t5 t11) t5 t11 fun t19 =>
j16 t19 h12) (j16 (.tup []) h12)) fun j13 =>
K.guK true t4 (K.callFK run 61 [t8] h9 fun t20 h21 =>
j13 t20 h21) (j13 (.tup []) h9)) fun j10 =>
K.guK true t4 (j10 t0 h6) (j10 (.tup []) h6)) fun j7 =>
K.guK true t4 (j7 t2 h) (j7 (.tup []) h))
noncomputable def r74 : K.KRun → List AV → H → K.KR := fun run args h => K.uncons args fun t0 l1 => K.uncons l1 fun t2 l3 => K.uncons l3 fun t4 l5 => K.unnil l5 (
K.boxK t2 h fun t6 h7 =>
K.allocK (K.zN ctx 126) (K.zT ctx 126) h7 fun t8 h9 =>
K.ldsK ctx 25 3 t6 h9 fun t10 =>
K.callFK run 41 [t0, t10, t4] h9 fun t11 h12 =>
K.extK t11 0 fun t13 =>
K.extK t11 1 fun t14 =>
K.allocK (K.zN ctx 49) (K.zT ctx 49) h12 fun t15 h16 =>
K.stsK 10 t15 t13 h16 fun h17 =>
K.letK (fun (l18 : List AV) (m19 : List Nat) (h20 : H) => K.uncons l18 fun t22 l23 => K.uncons l23 fun t24 l25 => K.uncons l25 fun t26 l27 => K.uncons l27 fun t28 l29 => K.uncons l29 fun t30 l31 => K.unnil l31 (
K.neK (K.binV ctx .neq 71 true t30 (.int .i64 (.ofNat 0))) t30 (.int .i64 (.ofNat 0)) fun t32 =>
K.iteV t32 (
K.bldSK ctx 126 [] fun t33 =>
K.stsK 5 t28 t33 h20 fun h34 =>
K.unmarkK m19 h34 fun h35 => K.asPtr t28 fun n36 n37 => K.loads h35 n36 n37 5 fun t38 => .ok (.tup [(.agg t38), t30]) h35) (
K.ldsK ctx 25 3 t26 h20 fun t39 =>
K.callFK run 77 [t22, t39, t24] h20 fun t40 h41 =>
K.extK t40 0 fun t42 =>
K.extK t40 1 fun t43 =>
K.ldsK ctx 25 3 t26 h41 fun t44 =>
K.bldSK ctx 126 [(0, t22), (1, t44), (2, t42)] fun t45 =>
K.stsK 5 t28 t45 h41 fun h46 =>
K.unmarkK m19 h46 fun h47 => K.asPtr t28 fun n48 n49 => K.loads h47 n48 n49 5 fun t50 => .ok (.tup [(.agg t50), t43]) h47))) fun j21 =>
K.eqK (K.binV ctx .eql 71 true t14 (.int .i64 (.ofNat 0))) t14 (.int .i64 (.ofNat 0)) fun t51 =>
K.letK (fun (t52 : AV) (h53 : H) => K.letK (fun (t55 : AV) (h56 : H) => K.letK (fun (t58 : AV) (h59 : H) => K.pickK t51 t58 (.bool false) fun t61 =>
K.iteV t61 (
j21 [t0, t4, t6, t8, (.int .i64 (.ofNat 10))] [] h59) (
j21 [t0, t4, t6, t8, t14] [] h59)) fun j60 =>
K.guK true t51 (K.neK (K.binV ctx .neq 37 true t55 (.int .u64 (.ofNat 2))) t55 (.int .u64 (.ofNat 2)) fun t62 =>
j60 t62 h56) (j60 (.tup []) h56)) fun j57 =>
K.guK true t51 (K.ldK ctx 37 t52 h53 fun t63 =>
j57 t63 h53) (j57 (.tup []) h53)) fun j54 =>
K.guK true t51 (K.fldK 0 t15 fun t64 =>
j54 t64 h17) (j54 (.tup []) h17))
noncomputable def r75 : K.KRun → List AV → H → K.KR := fun run args h => K.uncons args fun t0 l1 => K.unnil l1 (
K.boxK t0 h fun t2 h3 =>
K.unmarkK [] h3 fun h4 => .ok (.func (.func 84) [] [t2]) h4)
noncomputable def r76 : K.KRun → List AV → H → K.KR := fun run args h => K.uncons args fun t0 l1 => K.uncons l1 fun t2 l3 => K.unnil l3 (
K.boxK t0 h fun t4 h5 =>
K.allocK (K.zN ctx 98) (K.zT ctx 98) h5 fun t6 h7 =>
K.fldK 4 t4 fun t8 =>
K.ldK ctx 124 t8 h7 fun t9 =>
K.callFK run 78 [t9, t2] h7 fun t10 h11 =>
K.extK t10 0 fun t12 =>
K.extK t10 1 fun t13 =>
K.neK (K.binV ctx .neq 71 true t13 (.int .i64 (.ofNat 0))) t13 (.int .i64 (.ofNat 0)) fun t14 =>
K.letK (fun (t15 : AV) (h16 : H) => K.letK (fun (t18 : AV) (h19 : H) => K.pickK t14 (.bool true) t18 fun t21 =>
K.iteV t21 (
K.bldSK ctx 98 [] fun t22 =>
K.stsK 2 t6 t22 h19 fun h23 =>
K.unmarkK [] h23 fun h24 => K.asPtr t6 fun n25 n26 => K.loads h24 n25 n26 2 fun t27 => .ok (.tup [(.agg t27), t13]) h24) (
K.fldK 1 t4 fun t28 =>
K.ldsK ctx 25 3 t28 h19 fun t29 =>
K.callFK run 79 [t29, t12] h19 fun t30 h31 =>
K.fldK 0 t4 fun t32 =>
K.ldK ctx 50 t32 h31 fun t33 =>
K.fldK 0 t4 fun t34 =>
K.ldK ctx 50 t34 h31 fun t35 =>
K.addK (K.binV ctx .add 3 true t30 (.int .i64 (.ofNat 1))) t30 (.int .i64 (.ofNat 1)) fun t36 =>
K.callFK run 49 [t33, t30] h31 fun t37 h38 =>
K.ldK ctx 50 t34 h38 fun t39 =>
K.req (AV.same t35 t39) (
K.callFK run 49 [t35, t36] h38 fun t40 h41 =>
K.ltK (K.binV ctx .lss 37 true t37 (.int .u64 (.ofNat 1))) t37 (.int .u64 (.ofNat 1)) fun t42 =>
K.letK (fun (t43 : AV) (h44 : H) => K.letK (fun (t46 : AV) (h47 : H) => K.letK (fun (t49 : AV) (h50 : H) => K.letK (fun (t52 : AV) (h53 : H) => K.letK (fun (t55 : AV) (h56 : H) => K.letK (fun (t58 : AV) (h59 : H) => K.pickK t42 (.bool true) t58 fun t61 =>
K.letK (fun (t62 : AV) (h63 : H) => K.letK (fun (t65 : AV) (h66 : H) => K.pickK t61 (.bool true) t65 fun t68 =>
K.iteV t68 (
K.bldSK ctx 98 [] fun t69 =>
K.stsK 2 t6 t69 h66 fun h70 =>
K.unmarkK [] h70 fun h71 => K.asPtr t6 fun n72 n73 => K.loads h71 n72 n73 2 fun t74 => .ok (.tup [(.agg t74), (.int .i64 (.ofNat 4))]) h71) (
K.letK (fun (l75 : List AV) (m76 : List Nat) (h77 : H) => K.uncons l75 fun t79 l80 => K.uncons l80 fun t81 l82 => K.uncons l82 fun t83 l84 => K.uncons l84 fun t85 l86 => K.unnil l86 (
K.rK (convA ctx 37 3 t83 h77) fun t87 h88 =>
K.callFK run 71 [t85, t87] h88 fun t89 h90 =>
K.extK t89 0 fun t91 =>
K.extK t89 1 fun t92 =>
K.neK (K.binV ctx .neq 71 true t92 (.int .i64 (.ofNat 0))) t92 (.int .i64 (.ofNat 0)) fun t93 =>
K.letK (fun (t94 : AV) (h95 : H) => K.letK (fun (t97 : AV) (h98 : H) => K.letK (fun (t100 : AV) (h101 : H) => K.pickK t93 (.bool true) t100 fun t103 =>
K.iteV t103 (
K.bldSK ctx 98 [] fun t104 =>
K.stsK 2 t79 t104 h101 fun h105 =>
K.unmarkK m76 h105 fun h106 => K.asPtr t79 fun n107 n108 => K.loads h106 n107 n108 2 fun t109 => .ok (.tup [(.agg t109), (.int .i64 (.ofNat 4))]) h106) (
K.rK (convA ctx 37 3 t81 h101) fun t110 h111 =>
K.bldSK ctx 98 [(0, t91), (1, t110)] fun t112 =>
K.stsK 2 t79 t112 h111 fun h113 =>
K.unmarkK m76 h113 fun h114 => K.asPtr t79 fun n115 n116 => K.loads h114 n115 n116 2 fun t117 => .ok (.tup [(.agg t117), (.int .i64 (.ofNat 0))]) h114)) fun j102 =>
K.guK false t93 (K.notK t97 fun t118 =>
j102 t118 h98) (j102 (.tup []) h98)) fun j99 =>
K.guK false t93 (K.callFK run 85 [t94] h95 fun t119 h120 =>
j99 t119 h120) (j99 (.tup []) h95)) fun j96 =>
K.guK false t93 (j96 t91 h90) (j96 (.tup []) h90))) fun j78 =>
K.loopV (nat_lit 1000000) (fun s124 l121 m122 h123 => K.uncons l121 fun t125 l126 => K.uncons l126 fun t127 l128 => K.uncons l128 fun t129 l130 => K.uncons l130 fun t131 l132 => K.uncons l132 fun t133 l134 => K.uncons l134 fun t135 l136 => K.uncons l136 fun t137 l138 => K.unnil l138 (
K.ltK (K.binV ctx .lss 3 true t137 (.int .i64 (.ofNat 8))) t137 (.int .i64 (.ofNat 8)) fun t139 =>
K.iteV t139 (
K.fldK 0 t125 fun t140 =>
K.ldK ctx 50 t140 h123 fun t141 =>
K.addK (K.binV ctx .add 3 false t129 t137) t129 t137 fun t142 =>
K.callFK run 49 [t141, t142] h123 fun t143 h144 =>
K.bslK ctx 37 1 1 [(0, t143)] h144 fun t145 h146 =>
K.appK ctx 37 1 t135 t145 h146 fun t147 h148 =>
K.addK (K.binV ctx .add 3 true t137 (.int .i64 (.ofNat 1))) t137 (.int .i64 (.ofNat 1)) fun t149 =>
s124 [t125, t127, t129, t131, t133, t147, t149] m122 h148) (
j78 [t127, t131, t133, t135] m122 h123))) [t4, t6, t30, t37, t40, .nilSlice, (.int .i64 (.ofNat 2))] [] h66)) fun j67 =>
K.guK false t61 (K.gtK (K.binV ctx .gtr 37 true t62 (.int .u64 (.ofNat 40))) t62 (.int .u64 (.ofNat 40)) fun t150 =>
j67 t150 h63) (j67 (.tup []) h63)) fun j64 =>
K.guK false t61 (j64 t40 h59) (j64 (.tup []) h59)) fun j60 =>
K.guK false t42 (K.geK (K.binV ctx .geq 37 false t43 t55) t43 t55 fun t151 =>
j60 t151 h56) (j60 (.tup []) h56)) fun j57 =>
K.guK false t42 (K.rK (convA ctx 3 37 t52 h53) fun t152 h153 =>
j57 t152 h153) (j57 (.tup []) h53)) fun j54 =>
K.guK false t42 (K.ldK ctx 3 t49 h50 fun t154 =>
j54 t154 h50) (j54 (.tup []) h50)) fun j51 =>
K.guK false t42 (K.fldK 1 t46 fun t155 =>
j51 t155 h47) (j51 (.tup []) h47)) fun j48 =>
K.guK false t42 (K.fldK 1 t4 fun t156 =>
j48 t156 h44) (j48 (.tup []) h44)) fun j45 =>
K.guK false t42 (j45 t37 h41) (j45 (.tup []) h41)))) fun j20 =>
K.guK false t14 (K.eqK (K.binV ctx .eql 3 true t15 (.int .i64 (.ofNat 0))) t15 (.int .i64 (.ofNat 0)) fun t157 =>
j20 t157 h16) (j20 (.tup []) h16)) fun j17 =>
K.guK false t14 (j17 t12 h11) (j17 (.tup []) h11))
noncomputable def r77 : K.KRun → List AV → H → K.KR := fun run args h => K.uncons args fun t0 l1 => K.uncons l1 fun t2 l3 => K.uncons l3 fun t4 l5 => K.unnil l5 (
K.boxK t2 h fun t6 h7 =>
K.ldsK ctx 25 3 t6 h7 fun t8 =>
K.callFK run 41 [t0, t8, t4] h7 fun t9 h10 =>
K.extK t9 0 fun t11 =>
K.extK t9 1 fun t12 =>
K.allocK (K.zN ctx 49) (K.zT ctx 49) h10 fun t13 h14 =>
K.stsK 10 t13 t11 h14 fun h15 =>
K.neK (K.binV ctx .neq 71 true t12 (.int .i64 (.ofNat 0))) t12 (.int .i64 (.ofNat 0)) fun t16 =>
K.iteV t16 (
K.unmarkK [] h15 fun h17 => .ok (.tup [.nilPtr, t12]) h17) (
K.ldsK ctx 25 3 t6 h15 fun t18 =>
K.bldSK ctx 143 [(0, t0), (1, t18), (2, t4)] fun t19 =>
K.boxK t19 h15 fun t20 h21 =>
K.unmarkK [] h21 fun h22 => .ok (.tup [t20, (.int .i64 (.ofNat 0))]) h22))
noncomputable def r78 : K.KRun → List AV → H → K.KR := fun run args h => K.uncons args fun t0 l1 => K.uncons l1 fun t2 l3 => K.unnil l3 (
K.eqK (K.binV ctx .eql 124 true t0 .nilPtr) t0 .nilPtr fun t4 =>
K.iteV t4 (
K.unmarkK [] h fun h5 => .ok (.tup [(.int .i64 (.ofNat 0)), (.int .i64 (.ofNat 2))]) h5) (
K.letK (fun (l6 : List AV) (m7 : List Nat) (h8 : H) => K.uncons l6 fun t10 l11 => K.uncons l11 fun t12 l13 => K.uncons l13 fun t14 l15 => K.unnil l15 (
K.iteV t14 (
K.unmarkK m7 h8 fun h16 => .ok (.tup [(.int .i64 (.ofNat 0)), (.int .i64 (.ofNat 1))]) h16) (
K.nilK t10 fun t17 =>
K.fldK 0 t17 fun t18 =>
K.ldK ctx 50 t18 h8 fun t19 =>
K.nilK t10 fun t20 =>
K.fldK 1 t20 fun t21 =>
K.ldsK ctx 25 3 t21 h8 fun t22 =>
K.nilK t10 fun t23 =>
K.fldK 4 t23 fun t24 =>
K.ldK ctx 3 t24 h8 fun t25 =>
K.callFK run 41 [t19, t22, t25] h8 fun t26 h27 =>
K.extK t26 0 fun t28 =>
K.extK t26 1 fun t29 =>
K.allocK (K.zN ctx 49) (K.zT ctx 49) h27 fun t30 h31 =>
K.stsK 10 t30 t28 h31 fun h32 =>
K.neK (K.binV ctx .neq 71 true t29 (.int .i64 (.ofNat 0))) t29 (.int .i64 (.ofNat 0)) fun t33 =>
K.iteV t33 (
K.unmarkK m7 h32 fun h34 => .ok (.tup [(.int .i64 (.ofNat 0)), t29]) h34) (
K.callFK run 86 [t10, t12] h32 fun t35 h36 =>
K.extK t35 0 fun t37 =>
K.extK t35 1 fun t38 =>
K.notK t38 fun t39 =>
K.iteV t39 (
K.unmarkK m7 h36 fun h40 => .ok (.tup [(.int .i64 (.ofNat 0)), (.int .i64 (.ofNat 0))]) h40) (
K.nilK t10 fun t41 =>
K.fldK 0 t41 fun t42 =>
K.ldK ctx 50 t42 h36 fun t43 =>
K.callFK run 49 [t43, t37] h36 fun t44 h45 =>
K.nilK t10 fun t46 =>
K.fldK 1 t46 fun t47 =>
K.fldK 2 t47 fun t48 =>
K.ldK ctx 3 t48 h45 fun t49 =>
K.rK (convA ctx 3 37 t49 h45) fun t50 h51 =>
K.geK (K.binV ctx .geq 37 false t44 t50) t44 t50 fun t52 =>
K.iteV t52 (
K.unmarkK m7 h51 fun h53 => .ok (.tup [(.int .i64 (.ofNat 0)), (.int .i64 (.ofNat 4))]) h53) (
K.rK (convA ctx 37 3 t44 h51) fun t54 h55 =>
K.unmarkK m7 h55 fun h56 => .ok (.tup [t54, (.int .i64 (.ofNat 0))]) h56)))))) fun j9 =>
K.ltK (K.binV ctx .lss 3 true t2 (.int .i64 (.ofNat 0))) t2 (.int .i64 (.ofNat 0)) fun t57 =>
K.iteV t57 (
j9 [t0, t2, t57] [] h) (
K.geK (K.binV ctx .geq 3 true t2 (.int .i64 (.ofNat 12))) t2 (.int .i64 (.ofNat 12)) fun t58 =>
j9 [t0, t2, t58] [] h)))
noncomputable def r79 : K.KRun → List AV → H → K.KR := fun run args h => K.uncons args fun t0 l1 => K.uncons l1 fun t2 l3 => K.unnil l3 (
K.boxK t0 h fun t4 h5 =>
K.ldsK ctx 25 3 t4 h5 fun t6 =>
K.callFK run 62 [t6, (.int .u8 (.ofNat 9)), t2] h5 fun t7 h8 =>
K.unmarkK [] h8 fun h9 => .ok t7 h9)
noncomputable def r80 : K.KRun → List AV → H → K.KR := fun run args h => K.uncons args fun t0 l1 => K.unnil l1 (
K.letK (fun (l2 : List AV) (m3 : List Nat) (h4 : H) => K.uncons l2 fun t6 l7 => K.unnil l7 (
K.idxSK 1 t6 (.int .i64 (.ofNat 0)) fun t8 =>
K.ldK ctx 37 t8 h4 fun t9 =>
K.letK (fun (l10 : List AV) (m11 : List Nat) (h12 : H) => K.uncons l10 fun t14 l15 => K.unnil l15 (
K.unmarkK m11 h12 fun h16 => .ok t14 h16)) fun j13 =>
K.loopV (nat_lit 1000000) (fun s20 l17 m18 h19 => K.uncons l17 fun t21 l22 => K.uncons l22 fun t23 l24 => K.uncons l24 fun t25 l26 => K.unnil l26 (
K.lenVK t21 fun t27 =>
K.ltK (K.binV ctx .lss 3 false t25 t27) t25 t27 fun t28 =>
K.iteV t28 (
K.idxSK 1 t21 t25 fun t29 =>
K.ldK ctx 37 t29 h19 fun t30 =>
K.slowK ctx run (K.opAt Go.Proofs.Tryz.f80 7 5) [18, 22] [t23, t30] h19 fun t31 h32 =>
K.addK (K.binV ctx .add 3 true t25 (.int .i64 (.ofNat 1))) t25 (.int .i64 (.ofNat 1)) fun t33 =>
s20 [t21, t31, t33] m18 h32) (
j13 [t23] m18 h19))) [t6, t9, (.int .i64 (.ofNat 1))] m3 h4)) fun j5 =>
K.lenVK t0 fun t34 =>
K.ltK (K.binV ctx .lss 3 true t34 (.int .i64 (.ofNat 1))) t34 (.int .i64 (.ofNat 1)) fun t35 =>
K.iteV t35 (
K.slowK ctx run (K.opAt Go.Proofs.Tryz.f80 2 1) [8] [(.iface 9 (.str [115, 108, 105, 99, 101, 115, 46, 77, 97, 120, 58, 32, 101, 109, 112, 116, 121, 32, 108, 105, 115, 116]))] h fun t36 h37 =>
j5 [t0] [] h37) (
j5 [t0] [] h))
noncomputable def r81 : K.KRun → List AV → H → K.KR := fun run args h => K.uncons args fun t0 l1 => K.unnil l1 (
K.ldsK ctx 25 3 (.gptr 0 0) h fun t2 =>
K.callFK run 62 [t2, (.int .u8 (.ofNat 2)), t0] h fun t3 h4 =>
K.unmarkK [] h4 fun h5 => .ok t3 h5)
noncomputable def r82 : K.KRun → List AV → H → K.KR := fun run args h => K.uncons args fun t0 l1 => K.uncons l1 fun t2 l3 => K.uncons l3 fun t4 l5 => K.uncons l5 fun t6 l7 => K.uncons l7 fun t8 l9 => K.unnil l9 (
K.callFK run 81 [t0] h fun t10 h11 =>
K.ltK (K.binV ctx .lss 3 true t10 (.int .i64 (.ofNat 0))) t10 (.int .i64 (.ofNat 0)) fun t12 =>
K.letK (fun (t13 : AV) (h14 : H) => K.letK (fun (t16 : AV) (h17 : H) => K.letK (fun (t19 : AV) (h20 : H) => K.letK (fun (t22 : AV) (h23 : H) => K.letK (fun (t25 : AV) (h26 : H) => K.pickK t12 (.bool true) t25 fun t28 =>
K.iteV t28 (
K.unmarkK [] h26 fun h29 => .ok (.int .i64 (.negSucc 0)) h29) (
K.addK (K.binV ctx .add 3 false t10 t6) t10 t6 fun t30 =>
K.mulK (K.binV ctx .mul 3 false t8 t2) t8 t2 fun t31 =>
K.addK (K.binV ctx .add 3 false t30 t31) t30 t31 fun t32 =>
K.unmarkK [] h26 fun h33 => .ok t32 h33)) fun j27 =>
K.guK false t12 (K.notK t22 fun t34 =>
j27 t34 h23) (j27 (.tup []) h23)) fun j24 =>
K.guK false t12 (K.callFK run 21 [t13, (.int .i64 (.ofNat 0)), t19] h20 fun t35 h36 =>
j24 t35 h36) (j24 (.tup []) h20)) fun j21 =>
K.guK false t12 (K.subK (K.binV ctx .sub 3 true t16 (.int .i64 (.ofNat 1))) t16 (.int .i64 (.ofNat 1)) fun t37 =>
j21 t37 h17) (j21 (.tup []) h17)) fun j18 =>
K.guK false t12 (j18 t4 h14) (j18 (.tup []) h14)) fun j15 =>
K.guK false t12 (j15 t2 h11) (j15 (.tup []) h11))
noncomputable def r83 : K.KRun → List AV → H → K.KR := fun run args h => K.uncons args fun t0 l1 => K.uncons l1 fun t2 l3 => K.unnil l3 (
K.callFK run 82 [t0, t2, (.int .i64 (.ofNat 4)), (.int .i64 (.ofNat 8)), (.int .i64 (.ofNat 12))] h fun t4 h5 =>
K.unmarkK [] h5 fun h6 => .ok t4 h6)
noncomputable def r84 : K.KRun → List AV → H → K.KR := fun run args h => K.uncons args fun t0 l1 => K.uncons l1 fun t2 l3 => K.unnil l3 (
K.loopV (nat_lit 1000000) (fun s7 l4 m5 h6 => K.uncons l4 fun t8 l9 => K.uncons l9 fun t10 l11 => K.uncons l11 fun t12 l13 => K.unnil l13 (
K.ltK (K.binV ctx .lss 3 true t12 (.int .i64 (.ofNat 12))) t12 (.int .i64 (.ofNat 12)) fun t14 =>
K.iteV t14 (
K.ldK ctx 3 t10 h6 fun t15 =>
K.addK (K.binV ctx .add 3 false t15 t12) t15 t12 fun t16 =>
K.oK (K.binV ctx .rem 3 true t16 (.int .i64 (.ofNat 12))) fun t17 =>
K.callVK run t8 [t17] h6 fun t18 h19 =>
K.notK t18 fun t20 =>
K.iteV t20 (
K.unmarkK m5 h19 fun h21 => .ok (.tup []) h21) (
K.addK (K.binV ctx .add 3 true t12 (.int .i64 (.ofNat 1))) t12 (.int .i64 (.ofNat 1)) fun t22 =>
s7 [t8, t10, t22] m5 h19)) (
K.unmarkK m5 h6 fun h23 => .ok (.tup []) h23))) [t0, t2, (.int .i64 (.ofNat 0))] [] h)
noncomputable def r86 : K.KRun → List AV → H → K.KR := fun run args h => K.uncons args fun t0 l1 => K.uncons l1 fun t2 l3 => K.unnil l3 (
K.letK (fun (l4 : List AV) (m5 : List Nat) (h6 : H) => K.uncons l4 fun t8 l9 => K.uncons l9 fun t10 l11 => K.unnil l11 (
K.callVK run t10 [t8] h6 fun t12 h13 =>
K.extK t12 0 fun t14 =>
K.extK t12 1 fun t15 =>
K.unmarkK m5 h13 fun h16 => .ok (.tup [t14, t15]) h16)) fun j7 =>
K.geK (K.binV ctx .geq 3 true t2 (.int .i64 (.ofNat 4))) t2 (.int .i64 (.ofNat 4)) fun t17 =>
K.iteV t17 (
j7 [t2, (.func (.func 89) [t0] [])] [] h) (
j7 [t2, (.func (.func 88) [t0] [])] [] h))
noncomputable def r88 : K.KRun → List AV → H → K.KR := fun run args h => K.uncons args fun t0 l1 => K.uncons l1 fun t2 l3 => K.unnil l3 (
K.addK (K.binV ctx .add 3 true (.int .i64 (.ofNat 4)) t2) (.int .i64 (.ofNat 4)) t2 fun t4 =>
K.callFK run 91 [t0, t4] h fun t5 h6 =>
K.unmarkK [] h6 fun h7 => .ok (.tup [t5, (.bool true)]) h7)
noncomputable def r89 : K.KRun → List AV → H → K.KR := fun run args h => K.uncons args fun t0 l1 => K.uncons l1 fun t2 l3 => K.unnil l3 (
K.callFK run 92 [t0] h fun t4 h5 =>
K.nilK t0 fun t6 =>
K.fldK 1 t6 fun t7 =>
K.ldsK ctx 25 3 t7 h5 fun t8 =>
K.callFK run 79 [t8, t4] h5 fun t9 h10 =>
K.addK (K.binV ctx .add 3 false t9 t2) t9 t2 fun t11 =>
K.subK (K.binV ctx .sub 3 true t11 (.int .i64 (.ofNat 4))) t11 (.int .i64 (.ofNat 4)) fun t12 =>
K.neK (K.binV ctx .neq 3 true t4 (.int .i64 (.ofNat 0))) t4 (.int .i64 (.ofNat 0)) fun t13 =>
K.unmarkK [] h10 fun h14 => .ok (.tup [t12, t13]) h14)
noncomputable def r91 : K.KRun → List AV → H → K.KR := fun run args h => K.uncons args fun t0 l1 => K.uncons l1 fun t2 l3 => K.unnil l3 (
K.nilK t0 fun t4 =>
K.fldK 1 t4 fun t5 =>
K.ldsK ctx 25 3 t5 h fun t6 =>
K.nilK t0 fun t7 =>
K.fldK 4 t7 fun t8 =>
K.ldK ctx 3 t8 h fun t9 =>
K.callFK run 48 [t6, t9] h fun t10 h11 =>
K.addK (K.binV ctx .add 3 false t10 t2) t10 t2 fun t12 =>
K.unmarkK [] h11 fun h13 => .ok t12 h13)
noncomputable def r92 : K.KRun → List AV → H → K.KR := fun run args h => K.uncons args fun t0 l1 => K.unnil l1 (
K.nilK t0 fun t2 =>
K.fldK 0 t2 fun t3 =>
K.ldK ctx 50 t3 h fun t4 =>
K.callFK run 91 [t0, (.int .i64 (.ofNat 8))] h fun t5 h6 =>
K.ldK ctx 50 t3 h6 fun t7 =>
K.req (AV.same t4 t7) (
K.callFK run 49 [t4, t5] h6 fun t8 h9 =>
K.rK (convA ctx 37 3 t8 h9) fun t10 h11 =>
K.unmarkK [] h11 fun h12 => .ok t10 h12))
noncomputable def y1 : K.RnF := fun run l args env h => K.uncons args fun t0 l1 => K.unnil l1 (
K.opt (K.get env 6) fun t2 => K.opt (K.get env 7) fun t3 => K.opt (K.get env 8) fun t4 => K.begR l h fun h5 =>
K.ldsK ctx 126 5 t4 h5 fun t6 =>
K.callFK run 76 [t6, t0] h5 fun t7 h8 =>
K.extK t7 0 fun t9 =>
K.extK t7 1 fun t10 =>
K.allocK (K.zN ctx 98) (K.zT ctx 98) h8 fun t11 h12 =>
K.stsK 2 t11 t9 h12 fun h13 =>
K.neK (K.binV ctx .neq 71 true t10 (.int .i64 (.ofNat 0))) t10 (.int .i64 (.ofNat 0)) fun t14 =>
K.iteV t14 (
K.stK t2 .nilSlice h13 fun h15 =>
K.stK t3 t10 h15 fun h16 =>
K.finR l h16 .done (some .ret) false) (
K.ldsK ctx 98 2 t11 h13 fun t17 =>
K.bldSK ctx 98 [] fun t18 =>
K.neK (K.binV ctx .neq 98 false t17 t18) t17 t18 fun t19 =>
K.iteV t19 (
K.ldK ctx 93 t2 h13 fun t20 =>
K.ldsK ctx 98 2 t11 h13 fun t21 =>
K.bslK ctx 98 2 1 [(0, t21)] h13 fun t22 h23 =>
K.appK ctx 98 2 t20 t22 h23 fun t24 h25 =>
K.stK t2 t24 h25 fun h26 =>
K.finR l h26 .ready none true) (
K.finR l h13 .ready none true)))
end YtbigljebnajniaaGreatDoorCnM
