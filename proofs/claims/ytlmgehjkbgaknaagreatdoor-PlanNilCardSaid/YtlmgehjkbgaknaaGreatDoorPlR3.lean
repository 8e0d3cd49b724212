/- PRINTED BY Gen2.lean (own): functions as plain texts, part 3. -/
import Derived.Test.YtlmgehjkbgaknaaGreatDoorPlCtx
namespace YtlmgehjkbgaknaaGreatDoorPlM
open Go Am
set_option maxRecDepth 100000
noncomputable def r214 : K.KRun → List AV → H → K.KR := fun run args h => K.uncons args fun t0 l1 => K.uncons l1 fun t2 l3 => K.uncons l3 fun t4 l5 => K.uncons l5 fun t6 l7 => K.unnil l7 (
K.boxK t2 h fun t8 h9 =>
K.boxK t6 h9 fun t10 h11 =>
K.ldsK ctx 23 3 t8 h11 fun t12 =>
K.callFK run 195 [t0, t12, t4] h11 fun t13 h14 =>
K.extK t13 0 fun t15 =>
K.extK t13 1 fun t16 =>
K.eqK (K.binV ctx .eql 28 true t16 (.int .i64 (.ofNat 2))) t16 (.int .i64 (.ofNat 2)) fun t17 =>
K.iteV t17 (
K.unmarkK [] h14 fun h18 => .ok t16 h18) (
K.ldsK ctx 23 3 t8 h14 fun t19 =>
K.ldsK ctx 230 10 t10 h14 fun t20 =>
K.callFK run 197 [t19, t20] h14 fun t21 h22 =>
K.notK t21 fun t23 =>
K.iteV t23 (
K.unmarkK [] h22 fun h24 => .ok (.int .i64 (.ofNat 1)) h24) (
K.neK (K.binV ctx .neq 28 true t16 (.int .i64 (.ofNat 0))) t16 (.int .i64 (.ofNat 0)) fun t25 =>
K.iteV t25 (
K.unmarkK [] h22 fun h26 => .ok t16 h26) (
K.ldsK ctx 230 10 t10 h22 fun t27 =>
K.callFK run 287 [t27] h22 fun t28 h29 =>
K.callFK run 278 [t0, t15, t28] h29 fun t30 h31 =>
K.unmarkK [] h31 fun h32 => .ok t30 h32))))
noncomputable def r215 : K.KRun → List AV → H → K.KR := fun run args h => K.uncons args fun t0 l1 => K.uncons l1 fun t2 l3 => K.uncons l3 fun t4 l5 => K.uncons l5 fun t6 l7 => K.uncons l7 fun t8 l9 => K.unnil l9 (
K.ldK ctx 43 t0 h fun t10 =>
K.ldsK ctx 23 3 t2 h fun t11 =>
K.ldK ctx 3 t4 h fun t12 =>
K.ldK ctx 9 t6 h fun t13 =>
K.ldK ctx 3 t8 h fun t14 =>
K.bldSK ctx 248 [(0, t13), (1, t14)] fun t15 =>
K.callFK run 216 [t10, t11, t12, t15] h fun t16 h17 =>
K.unmarkK [] h17 fun h18 => .ok t16 h18)
noncomputable def r216 : K.KRun → List AV → H → K.KR := fun run args h => K.uncons args fun t0 l1 => K.uncons l1 fun t2 l3 => K.uncons l3 fun t4 l5 => K.uncons l5 fun t6 l7 => K.unnil l7 (
K.boxK t2 h fun t8 h9 =>
K.boxK t6 h9 fun t10 h11 =>
K.ldsK ctx 23 3 t8 h11 fun t12 =>
K.ldsK ctx 248 2 t10 h11 fun t13 =>
K.callFK run 288 [t0, t12, t13] h11 fun t14 h15 =>
K.neK (K.binV ctx .neq 28 true t14 (.int .i64 (.ofNat 0))) t14 (.int .i64 (.ofNat 0)) fun t16 =>
K.iteV t16 (
K.unmarkK [] h15 fun h17 => .ok t14 h17) (
K.ldsK ctx 23 3 t8 h15 fun t18 =>
K.callFK run 245 [t0, t18, t4] h15 fun t19 h20 =>
K.extK t19 0 fun t21 =>
K.extK t19 1 fun t22 =>
K.allocK (K.zN ctx 341) (K.zT ctx 341) h20 fun t23 h24 =>
K.stsK 5 t23 t21 h24 fun h25 =>
K.neK (K.binV ctx .neq 28 true t22 (.int .i64 (.ofNat 0))) t22 (.int .i64 (.ofNat 0)) fun t26 =>
K.iteV t26 (
K.unmarkK [] h25 fun h27 => .ok t22 h27) (
K.ldsK ctx 341 5 t23 h25 fun t28 =>
K.fldK 0 t10 fun t29 =>
K.ldK ctx 9 t29 h25 fun t30 =>
K.callFK run 289 [t28, t30] h25 fun t31 h32 =>
K.extK t31 0 fun t33 =>
K.extK t31 1 fun t34 =>
K.extK t31 2 fun t35 =>
K.allocK (K.zN ctx 248) (K.zT ctx 248) h32 fun t36 h37 =>
K.stsK 2 t36 t33 h37 fun h38 =>
K.eqK (K.binV ctx .eql 28 true t35 (.int .i64 (.ofNat 0))) t35 (.int .i64 (.ofNat 0)) fun t39 =>
K.iteV t39 (
K.unmarkK [] h38 fun h40 => .ok (.int .i64 (.ofNat 9)) h40) (
K.eqK (K.binV ctx .eql 28 true t35 (.int .i64 (.ofNat 6))) t35 (.int .i64 (.ofNat 6)) fun t41 =>
K.iteV t41 (
K.ldsK ctx 341 5 t23 h38 fun t42 =>
K.ldsK ctx 248 2 t10 h38 fun t43 =>
K.callFK run 290 [t42, t43] h38 fun t44 h45 =>
K.unmarkK [] h45 fun h46 => .ok t44 h46) (
K.unmarkK [] h38 fun h47 => .ok t35 h47)))))
noncomputable def r221 : K.KRun → List AV → H → K.KR := fun run args h => K.uncons args fun t0 l1 => K.uncons l1 fun t2 l3 => K.unnil l3 (
K.eqK (K.binV ctx .eql 299 true t0 .nilPtr) t0 .nilPtr fun t4 =>
K.iteV t4 (
K.unmarkK [] h fun h5 => .ok (.tup [(.int .i64 (.ofNat 0)), (.int .i64 (.ofNat 2))]) h5) (
K.letK (fun (l6 : List AV) (m7 : List Nat) (h8 : H) => K.uncons l6 fun t10 l11 => K.uncons l11 fun t12 l13 => K.uncons l13 fun t14 l15 => K.unnil l15 (
K.iteV t14 (
K.unmarkK m7 h8 fun h16 => .ok (.tup [(.int .i64 (.ofNat 0)), (.int .i64 (.ofNat 1))]) h16) (
K.nilK t10 fun t17 =>
K.fldK 0 t17 fun t18 =>
K.ldK ctx 43 t18 h8 fun t19 =>
K.nilK t10 fun t20 =>
K.fldK 1 t20 fun t21 =>
K.ldsK ctx 23 3 t21 h8 fun t22 =>
K.nilK t10 fun t23 =>
K.fldK 4 t23 fun t24 =>
K.ldK ctx 3 t24 h8 fun t25 =>
K.callFK run 130 [t19, t22, t25] h8 fun t26 h27 =>
K.extK t26 0 fun t28 =>
K.extK t26 1 fun t29 =>
K.allocK (K.zN ctx 230) (K.zT ctx 230) h27 fun t30 h31 =>
K.stsK 10 t30 t28 h31 fun h32 =>
K.neK (K.binV ctx .neq 28 true t29 (.int .i64 (.ofNat 0))) t29 (.int .i64 (.ofNat 0)) fun t33 =>
K.iteV t33 (
K.unmarkK m7 h32 fun h34 => .ok (.tup [(.int .i64 (.ofNat 0)), t29]) h34) (
K.callFK run 291 [t10, t12] h32 fun t35 h36 =>
K.extK t35 0 fun t37 =>
K.extK t35 1 fun t38 =>
K.notK t38 fun t39 =>
K.iteV t39 (
K.unmarkK m7 h36 fun h40 => .ok (.tup [(.int .i64 (.ofNat 0)), (.int .i64 (.ofNat 0))]) h40) (
K.nilK t10 fun t41 =>
K.fldK 0 t41 fun t42 =>
K.ldK ctx 43 t42 h36 fun t43 =>
K.callFK run 119 [t43, t37] h36 fun t44 h45 =>
K.nilK t10 fun t46 =>
K.fldK 1 t46 fun t47 =>
K.fldK 2 t47 fun t48 =>
K.ldK ctx 3 t48 h45 fun t49 =>
K.rK (convA ctx 3 24 t49 h45) fun t50 h51 =>
K.geK (K.binV ctx .geq 24 false t44 t50) t44 t50 fun t52 =>
K.iteV t52 (
K.unmarkK m7 h51 fun h53 => .ok (.tup [(.int .i64 (.ofNat 0)), (.int .i64 (.ofNat 4))]) h53) (
K.rK (convA ctx 24 3 t44 h51) fun t54 h55 =>
K.unmarkK m7 h55 fun h56 => .ok (.tup [t54, (.int .i64 (.ofNat 0))]) h56)))))) fun j9 =>
K.ltK (K.binV ctx .lss 3 true t2 (.int .i64 (.ofNat 0))) t2 (.int .i64 (.ofNat 0)) fun t57 =>
K.iteV t57 (
j9 [t0, t2, t57] [] h) (
K.geK (K.binV ctx .geq 3 true t2 (.int .i64 (.ofNat 12))) t2 (.int .i64 (.ofNat 12)) fun t58 =>
j9 [t0, t2, t58] [] h)))
noncomputable def r225 : K.KRun → List AV → H → K.KR := fun run args h => K.uncons args fun t0 l1 => K.uncons l1 fun t2 l3 => K.unnil l3 (
K.callFK run 221 [t0, t2] h fun t4 h5 =>
K.extK t4 0 fun t6 =>
K.extK t4 1 fun t7 =>
K.neK (K.binV ctx .neq 28 true t7 (.int .i64 (.ofNat 0))) t7 (.int .i64 (.ofNat 0)) fun t8 =>
K.letK (fun (t9 : AV) (h10 : H) => K.letK (fun (t12 : AV) (h13 : H) => K.pickK t8 (.bool true) t12 fun t15 =>
K.iteV t15 (
K.unmarkK [] h13 fun h16 => .ok (.tup [t6, t7]) h16) (
K.nilK t0 fun t17 =>
K.fldK 0 t17 fun t18 =>
K.ldK ctx 43 t18 h13 fun t19 =>
K.nilK t0 fun t20 =>
K.fldK 1 t20 fun t21 =>
K.ldsK ctx 23 3 t21 h13 fun t22 =>
K.callFK run 205 [t19, t22] h13 fun t23 h24 =>
K.extK t23 0 fun t25 =>
K.extK t23 1 fun t26 =>
K.neK (K.binV ctx .neq 28 true t26 (.int .i64 (.ofNat 0))) t26 (.int .i64 (.ofNat 0)) fun t27 =>
K.iteV t27 (
K.unmarkK [] h24 fun h28 => .ok (.tup [(.int .i64 (.ofNat 0)), t26]) h28) (
K.callFK run 293 [t25] h24 fun t29 h30 =>
K.extK t29 0 fun t31 =>
K.extK t29 1 fun t32 =>
K.callFK run 295 [t0, t2] h30 fun t33 h34 =>
K.ltK (K.binV ctx .lss 3 false t32 t33) t32 t33 fun t35 =>
K.iteV t35 (
K.unmarkK [] h34 fun h36 => .ok (.tup [(.int .i64 (.ofNat 0)), (.int .i64 (.ofNat 7))]) h36) (
K.callFK run 291 [t0, t2] h34 fun t37 h38 =>
K.extK t37 0 fun t39 =>
K.extK t37 1 fun t40 =>
K.letK (fun (l41 : List AV) (m42 : List Nat) (h43 : H) => K.uncons l41 fun t45 l46 => K.uncons l46 fun t47 l48 => K.unnil l48 (
K.callFK run 296 [t45, t47] h43 fun t49 h50 =>
K.extK t49 0 fun t51 =>
K.extK t49 1 fun t52 =>
K.unmarkK m42 h50 fun h53 => .ok (.tup [t51, t52]) h53)) fun j44 =>
K.notK t40 fun t54 =>
K.iteV t54 (
K.callFK run 297 [t0, (.int .i64 (.ofNat 8))] h38 fun t55 h56 =>
K.callFK run 296 [t0, t55] h56 fun t57 h58 =>
K.extK t57 0 fun t59 =>
K.extK t57 1 fun t60 =>
K.neK (K.binV ctx .neq 28 true t60 (.int .i64 (.ofNat 0))) t60 (.int .i64 (.ofNat 0)) fun t61 =>
K.iteV t61 (
K.unmarkK [] h58 fun h62 => .ok (.tup [(.int .i64 (.ofNat 0)), t60]) h62) (
K.callFK run 291 [t0, t2] h58 fun t63 h64 =>
K.extK t63 0 fun t65 =>
K.extK t63 1 fun t66 =>
j44 [t0, t65] [] h64)) (
j44 [t0, t39] [] h38))))) fun j14 =>
K.guK false t8 (K.neK (K.binV ctx .neq 3 true t9 (.int .i64 (.ofNat 0))) t9 (.int .i64 (.ofNat 0)) fun t67 =>
j14 t67 h10) (j14 (.tup []) h10)) fun j11 =>
K.guK false t8 (j11 t6 h5) (j11 (.tup []) h5))
noncomputable def r227 : K.KRun → List AV → H → K.KR := fun run args h => K.uncons args fun t0 l1 => K.uncons l1 fun t2 l3 => K.unnil l3 (
K.boxK t0 h fun t4 h5 =>
K.ldsK ctx 23 3 t4 h5 fun t6 =>
K.callFK run 103 [t6, (.int .u8 (.ofNat 9)), t2] h5 fun t7 h8 =>
K.unmarkK [] h8 fun h9 => .ok t7 h9)
noncomputable def r245 : K.KRun → List AV → H → K.KR := fun run args h => K.uncons args fun t0 l1 => K.uncons l1 fun t2 l3 => K.uncons l3 fun t4 l5 => K.unnil l5 (
K.boxK t2 h fun t6 h7 =>
K.allocK (K.zN ctx 341) (K.zT ctx 341) h7 fun t8 h9 =>
K.ldsK ctx 23 3 t6 h9 fun t10 =>
K.callFK run 130 [t0, t10, t4] h9 fun t11 h12 =>
K.extK t11 0 fun t13 =>
K.extK t11 1 fun t14 =>
K.allocK (K.zN ctx 230) (K.zT ctx 230) h12 fun t15 h16 =>
K.stsK 10 t15 t13 h16 fun h17 =>
K.letK (fun (l18 : List AV) (m19 : List Nat) (h20 : H) => K.uncons l18 fun t22 l23 => K.uncons l23 fun t24 l25 => K.uncons l25 fun t26 l27 => K.uncons l27 fun t28 l29 => K.uncons l29 fun t30 l31 => K.unnil l31 (
K.neK (K.binV ctx .neq 28 true t30 (.int .i64 (.ofNat 0))) t30 (.int .i64 (.ofNat 0)) fun t32 =>
K.iteV t32 (
K.bldSK ctx 341 [] fun t33 =>
K.stsK 5 t28 t33 h20 fun h34 =>
K.unmarkK m19 h34 fun h35 => K.asPtr t28 fun n36 n37 => K.loads h35 n36 n37 5 fun t38 => .ok (.tup [(.agg t38), t30]) h35) (
K.ldsK ctx 23 3 t26 h20 fun t39 =>
K.callFK run 198 [t22, t39, t24] h20 fun t40 h41 =>
K.extK t40 0 fun t42 =>
K.extK t40 1 fun t43 =>
K.ldsK ctx 23 3 t26 h41 fun t44 =>
K.bldSK ctx 341 [(0, t22), (1, t44), (2, t42)] fun t45 =>
K.stsK 5 t28 t45 h41 fun h46 =>
K.unmarkK m19 h46 fun h47 => K.asPtr t28 fun n48 n49 => K.loads h47 n48 n49 5 fun t50 => .ok (.tup [(.agg t50), t43]) h47))) fun j21 =>
K.eqK (K.binV ctx .eql 28 true t14 (.int .i64 (.ofNat 0))) t14 (.int .i64 (.ofNat 0)) fun t51 =>
K.letK (fun (t52 : AV) (h53 : H) => K.letK (fun (t55 : AV) (h56 : H) => K.letK (fun (t58 : AV) (h59 : H) => K.pickK t51 t58 (.bool false) fun t61 =>
K.iteV t61 (
j21 [t0, t4, t6, t8, (.int .i64 (.ofNat 10))] [] h59) (
j21 [t0, t4, t6, t8, t14] [] h59)) fun j60 =>
K.guK true t51 (K.neK (K.binV ctx .neq 24 true t55 (.int .u64 (.ofNat 2))) t55 (.int .u64 (.ofNat 2)) fun t62 =>
j60 t62 h56) (j60 (.tup []) h56)) fun j57 =>
K.guK true t51 (K.ldK ctx 24 t52 h53 fun t63 =>
j57 t63 h53) (j57 (.tup []) h53)) fun j54 =>
K.guK true t51 (K.fldK 0 t15 fun t64 =>
j54 t64 h17) (j54 (.tup []) h17))
noncomputable def r246 : K.KRun → List AV → H → K.KR := fun run args h => K.uncons args fun t0 l1 => K.unnil l1 (
K.boxK t0 h fun t2 h3 =>
K.unmarkK [] h3 fun h4 => .ok (.func (.func 307) [] [t2]) h4)
noncomputable def r247 : K.KRun → List AV → H → K.KR := fun run args h => K.uncons args fun t0 l1 => K.uncons l1 fun t2 l3 => K.unnil l3 (
K.boxK t0 h fun t4 h5 =>
K.allocK (K.zN ctx 248) (K.zT ctx 248) h5 fun t6 h7 =>
K.fldK 4 t4 fun t8 =>
K.ldK ctx 299 t8 h7 fun t9 =>
K.callFK run 221 [t9, t2] h7 fun t10 h11 =>
K.extK t10 0 fun t12 =>
K.extK t10 1 fun t13 =>
K.neK (K.binV ctx .neq 28 true t13 (.int .i64 (.ofNat 0))) t13 (.int .i64 (.ofNat 0)) fun t14 =>
K.letK (fun (t15 : AV) (h16 : H) => K.letK (fun (t18 : AV) (h19 : H) => K.pickK t14 (.bool true) t18 fun t21 =>
K.iteV t21 (
K.bldSK ctx 248 [] fun t22 =>
K.stsK 2 t6 t22 h19 fun h23 =>
K.unmarkK [] h23 fun h24 => K.asPtr t6 fun n25 n26 => K.loads h24 n25 n26 2 fun t27 => .ok (.tup [(.agg t27), t13]) h24) (
K.fldK 1 t4 fun t28 =>
K.ldsK ctx 23 3 t28 h19 fun t29 =>
K.callFK run 227 [t29, t12] h19 fun t30 h31 =>
K.fldK 0 t4 fun t32 =>
K.ldK ctx 43 t32 h31 fun t33 =>
K.fldK 0 t4 fun t34 =>
K.ldK ctx 43 t34 h31 fun t35 =>
K.addK (K.binV ctx .add 3 true t30 (.int .i64 (.ofNat 1))) t30 (.int .i64 (.ofNat 1)) fun t36 =>
K.callFK run 119 [t33, t30] h31 fun t37 h38 =>
K.ldK ctx 43 t34 h38 fun t39 =>
K.req (AV.same t35 t39) (
K.callFK run 119 [t35, t36] h38 fun t40 h41 =>
K.ltK (K.binV ctx .lss 24 true t37 (.int .u64 (.ofNat 1))) t37 (.int .u64 (.ofNat 1)) fun t42 =>
K.letK (fun (t43 : AV) (h44 : H) => K.letK (fun (t46 : AV) (h47 : H) => K.letK (fun (t49 : AV) (h50 : H) => K.letK (fun (t52 : AV) (h53 : H) => K.letK (fun (t55 : AV) (h56 : H) => K.letK (fun (t58 : AV) (h59 : H) => K.pickK t42 (.bool true) t58 fun t61 =>
K.letK (fun (t62 : AV) (h63 : H) => K.letK (fun (t65 : AV) (h66 : H) => K.pickK t61 (.bool true) t65 fun t68 =>
K.iteV t68 (
K.bldSK ctx 248 [] fun t69 =>
K.stsK 2 t6 t69 h66 fun h70 =>
K.unmarkK [] h70 fun h71 => K.asPtr t6 fun n72 n73 => K.loads h71 n72 n73 2 fun t74 => .ok (.tup [(.agg t74), (.int .i64 (.ofNat 4))]) h71) (
K.letK (fun (l75 : List AV) (m76 : List Nat) (h77 : H) => K.uncons l75 fun t79 l80 => K.uncons l80 fun t81 l82 => K.uncons l82 fun t83 l84 => K.uncons l84 fun t85 l86 => K.unnil l86 (
K.rK (convA ctx 24 3 t83 h77) fun t87 h88 =>
K.callFK run 120 [t85, t87] h88 fun t89 h90 =>
K.extK t89 0 fun t91 =>
K.extK t89 1 fun t92 =>
K.neK (K.binV ctx .neq 28 true t92 (.int .i64 (.ofNat 0))) t92 (.int .i64 (.ofNat 0)) fun t93 =>
K.letK (fun (t94 : AV) (h95 : H) => K.letK (fun (t97 : AV) (h98 : H) => K.letK (fun (t100 : AV) (h101 : H) => K.pickK t93 (.bool true) t100 fun t103 =>
K.iteV t103 (
K.bldSK ctx 248 [] fun t104 =>
K.stsK 2 t79 t104 h101 fun h105 =>
K.unmarkK m76 h105 fun h106 => K.asPtr t79 fun n107 n108 => K.loads h106 n107 n108 2 fun t109 => .ok (.tup [(.agg t109), (.int .i64 (.ofNat 4))]) h106) (
K.rK (convA ctx 24 3 t81 h101) fun t110 h111 =>
K.bldSK ctx 248 [(0, t91), (1, t110)] fun t112 =>
K.stsK 2 t79 t112 h111 fun h113 =>
K.unmarkK m76 h113 fun h114 => K.asPtr t79 fun n115 n116 => K.loads h114 n115 n116 2 fun t117 => .ok (.tup [(.agg t117), (.int .i64 (.ofNat 0))]) h114)) fun j102 =>
K.guK false t93 (K.notK t97 fun t118 =>
j102 t118 h98) (j102 (.tup []) h98)) fun j99 =>
K.guK false t93 (K.callFK run 283 [t94] h95 fun t119 h120 =>
j99 t119 h120) (j99 (.tup []) h95)) fun j96 =>
K.guK false t93 (j96 t91 h90) (j96 (.tup []) h90))) fun j78 =>
K.loopV (nat_lit 1000000) (fun s124 l121 m122 h123 => K.uncons l121 fun t125 l126 => K.uncons l126 fun t127 l128 => K.uncons l128 fun t129 l130 => K.uncons l130 fun t131 l132 => K.uncons l132 fun t133 l134 => K.uncons l134 fun t135 l136 => K.uncons l136 fun t137 l138 => K.unnil l138 (
K.ltK (K.binV ctx .lss 3 true t137 (.int .i64 (.ofNat 8))) t137 (.int .i64 (.ofNat 8)) fun t139 =>
K.iteV t139 (
K.fldK 0 t125 fun t140 =>
K.ldK ctx 43 t140 h123 fun t141 =>
K.addK (K.binV ctx .add 3 false t129 t137) t129 t137 fun t142 =>
K.callFK run 119 [t141, t142] h123 fun t143 h144 =>
K.bslK ctx 24 1 1 [(0, t143)] h144 fun t145 h146 =>
K.appK ctx 24 1 t135 t145 h146 fun t147 h148 =>
K.addK (K.binV ctx .add 3 true t137 (.int .i64 (.ofNat 1))) t137 (.int .i64 (.ofNat 1)) fun t149 =>
s124 [t125, t127, t129, t131, t133, t147, t149] m122 h148) (
j78 [t127, t131, t133, t135] m122 h123))) [t4, t6, t30, t37, t40, .nilSlice, (.int .i64 (.ofNat 2))] [] h66)) fun j67 =>
K.guK false t61 (K.gtK (K.binV ctx .gtr 24 true t62 (.int .u64 (.ofNat 40))) t62 (.int .u64 (.ofNat 40)) fun t150 =>
j67 t150 h63) (j67 (.tup []) h63)) fun j64 =>
K.guK false t61 (j64 t40 h59) (j64 (.tup []) h59)) fun j60 =>
K.guK false t42 (K.geK (K.binV ctx .geq 24 false t43 t55) t43 t55 fun t151 =>
j60 t151 h56) (j60 (.tup []) h56)) fun j57 =>
K.guK false t42 (K.rK (convA ctx 3 24 t52 h53) fun t152 h153 =>
j57 t152 h153) (j57 (.tup []) h53)) fun j54 =>
K.guK false t42 (K.ldK ctx 3 t49 h50 fun t154 =>
j54 t154 h50) (j54 (.tup []) h50)) fun j51 =>
K.guK false t42 (K.fldK 1 t46 fun t155 =>
j51 t155 h47) (j51 (.tup []) h47)) fun j48 =>
K.guK false t42 (K.fldK 1 t4 fun t156 =>
j48 t156 h44) (j48 (.tup []) h44)) fun j45 =>
K.guK false t42 (j45 t37 h41) (j45 (.tup []) h41)))) fun j20 =>
K.guK false t14 (K.eqK (K.binV ctx .eql 3 true t15 (.int .i64 (.ofNat 0))) t15 (.int .i64 (.ofNat 0)) fun t157 =>
j20 t157 h16) (j20 (.tup []) h16)) fun j17 =>
K.guK false t14 (j17 t12 h11) (j17 (.tup []) h11))
noncomputable def r259 : K.KRun → List AV → H → K.KR := fun run args h => K.uncons args fun t0 l1 => K.unnil l1 (
K.callFK run 322 [] h fun t2 h3 =>
K.allocK (K.zN ctx 174) (K.zT ctx 174) h3 fun t4 h5 =>
K.stK t4 (.func (.func 323) [t2] []) h5 fun h6 =>
K.letK (fun (l7 : List AV) (m8 : List Nat) (h9 : H) => K.uncons l7 fun t11 l12 => K.unnil l12 (
K.callFK run 325 [t11] h9 fun t13 h14 =>
K.unmarkK m8 h14 fun h15 => .ok t13 h15)) fun j10 =>
K.callFK run 324 [t0] h6 fun t16 h17 =>
K.hNew h17 .marks fun r18 h19 => K.hNew h19 (.loop .ready none (K.mkT [3, 4, 10] [t2, t4, t16]) 5 r18) fun n20 h21 =>
K.rngK ctx run t16 n20 h21 (fun h23 => j10 [t2] (r18 :: []) h23) (fun h24 => K.unmarkK (r18 :: []) h24 fun h27 => .bad) fun i22 h25 => (Bool.rec (motive := fun _ => K.KR) (.bad) (j10 [t2] (r18 :: []) h25) (Nat.beq i22 0)))
noncomputable def r266 : K.KRun → List AV → H → K.KR := fun run args h => K.uncons args fun t0 l1 => K.uncons l1 fun t2 l3 => K.uncons l3 fun t4 l5 => K.unnil l5 (
K.boxK t2 h fun t6 h7 =>
K.ldK ctx 285 t4 h7 fun t8 =>
K.callVK run t8 [t6] h7 fun t9 h10 =>
K.nilK t9 fun t11 =>
K.ldK ctx 9 t11 h10 fun t12 =>
K.callFK run 267 [t0, t12] h10 fun t13 h14 =>
K.unmarkK [] h14 fun h15 => .ok t13 h15)
noncomputable def r267 : K.KRun → List AV → H → K.KR := fun run args h => K.uncons args fun t0 l1 => K.uncons l1 fun t2 l3 => K.unnil l3 (
K.lenTK t2 fun t4 =>
K.rK (convA ctx 3 24 t4 h) fun t5 h6 =>
K.callFK run 187 [t0, t5] h6 fun t7 h8 =>
K.appK ctx 5 1 t7 t2 h8 fun t9 h10 =>
K.unmarkK [] h10 fun h11 => .ok t9 h11)
noncomputable def r268 : K.KRun → List AV → H → K.KR := fun run args h => K.uncons args fun t0 l1 => K.uncons l1 fun t2 l3 => K.uncons l3 fun t4 l5 => K.uncons l5 fun t6 l7 => K.unnil l7 (
K.ldK ctx 285 t6 h fun t8 =>
K.ldK ctx 3 t4 h fun t9 =>
K.callVK run t8 [t2] h fun t10 h11 =>
K.ldK ctx 3 t4 h11 fun t12 =>
K.req (AV.same t9 t12) (
K.callFK run 269 [t0, t9] h11 fun t13 h14 =>
K.nilK t10 fun t15 =>
K.stK t15 t13 h14 fun h16 =>
K.unmarkK [] h16 fun h17 => .ok (.tup []) h17))
noncomputable def r269 : K.KRun → List AV → H → K.KR := fun run args h => K.uncons args fun t0 l1 => K.uncons l1 fun t2 l3 => K.unnil l3 (
K.boxK t2 h fun t4 h5 =>
K.callFK run 333 [t0, (.func (.func 334) [] [t4])] h5 fun t6 h7 =>
K.unmarkK [] h7 fun h8 => .ok t6 h8)
noncomputable def r270 : K.KRun → List AV → H → K.KR := fun run args h => K.uncons args fun t0 l1 => K.uncons l1 fun t2 l3 => K.uncons l3 fun t4 l5 => K.unnil l5 (
K.boxK t2 h fun t6 h7 =>
K.ldK ctx 288 t4 h7 fun t8 =>
K.callVK run t8 [t6] h7 fun t9 h10 =>
K.nilK t9 fun t11 =>
K.ldK ctx 24 t11 h10 fun t12 =>
K.callFK run 187 [t0, t12] h10 fun t13 h14 =>
K.unmarkK [] h14 fun h15 => .ok t13 h15)
noncomputable def r271 : K.KRun → List AV → H → K.KR := fun run args h => K.uncons args fun t0 l1 => K.uncons l1 fun t2 l3 => K.uncons l3 fun t4 l5 => K.unnil l5 (
K.ldK ctx 288 t4 h fun t6 =>
K.callVK run t6 [t2] h fun t7 h8 =>
K.callFK run 189 [t0] h8 fun t9 h10 =>
K.nilK t7 fun t11 =>
K.stK t11 t9 h10 fun h12 =>
K.unmarkK [] h12 fun h13 => .ok (.tup []) h13)
noncomputable def r272 : K.KRun → List AV → H → K.KR := fun run args h => K.uncons args fun t0 l1 => K.unnil l1 (
K.letK (fun (l2 : List AV) (m3 : List Nat) (h4 : H) => K.uncons l2 fun t6 l7 => K.uncons l7 fun t8 l9 => K.unnil l9 (
K.letK (fun (l10 : List AV) (m11 : List Nat) (h12 : H) => K.uncons l10 fun t14 l15 => K.uncons l15 fun t16 l17 => K.unnil l17 (
K.letK (fun (l18 : List AV) (m19 : List Nat) (h20 : H) => K.uncons l18 fun t22 l23 => K.uncons l23 fun t24 l25 => K.unnil l25 (
K.rK (convA ctx 24 5 t22 h20) fun t26 h27 =>
K.idxTK (.str [0, 1, 2, 2, 3, 3, 3, 3, 4, 4, 4, 4, 4, 4, 4, 4, 5, 5, 5, 5, 5, 5, 5, 5, 5, 5, 5, 5, 5, 5, 5, 5, 6, 6, 6, 6, 6, 6, 6, 6, 6, 6, 6, 6, 6, 6, 6, 6, 6, 6, 6, 6, 6, 6, 6, 6, 6, 6, 6, 6, 6, 6, 6, 6, 7, 7, 7, 7, 7, 7, 7, 7, 7, 7, 7, 7, 7, 7, 7, 7, 7, 7, 7, 7, 7, 7, 7, 7, 7, 7, 7, 7, 7, 7, 7, 7, 7, 7, 7, 7, 7, 7, 7, 7, 7, 7, 7, 7, 7, 7, 7, 7, 7, 7, 7, 7, 7, 7, 7, 7, 7, 7, 7, 7, 7, 7, 7, 7, 8, 8, 8, 8, 8, 8, 8, 8, 8, 8, 8, 8, 8, 8, 8, 8, 8, 8, 8, 8, 8, 8, 8, 8, 8, 8, 8, 8, 8, 8, 8, 8, 8, 8, 8, 8, 8, 8, 8, 8, 8, 8, 8, 8, 8, 8, 8, 8, 8, 8, 8, 8, 8, 8, 8, 8, 8, 8, 8, 8, 8, 8, 8, 8, 8, 8, 8, 8, 8, 8, 8, 8, 8, 8, 8, 8, 8, 8, 8, 8, 8, 8, 8, 8, 8, 8, 8, 8, 8, 8, 8, 8, 8, 8, 8, 8, 8, 8, 8, 8, 8, 8, 8, 8, 8, 8, 8, 8, 8, 8, 8, 8, 8, 8, 8, 8, 8, 8, 8, 8, 8, 8, 8, 8, 8, 8, 8, 8]) t26 fun t28 =>
K.rK (convA ctx 5 3 t28 h27) fun t29 h30 =>
K.addK (K.binV ctx .add 3 false t24 t29) t24 t29 fun t31 =>
K.unmarkK m19 h30 fun h32 => .ok t31 h32)) fun j21 =>
K.geK (K.binV ctx .geq 24 true t14 (.int .u64 (.ofNat 256))) t14 (.int .u64 (.ofNat 256)) fun t33 =>
K.iteV t33 (
K.oK (K.binV ctx .shr 24 true t14 (.int .u64 (.ofNat 8))) fun t34 =>
K.addK (K.binV ctx .add 3 true t16 (.int .i64 (.ofNat 8))) t16 (.int .i64 (.ofNat 8)) fun t35 =>
j21 [t34, t35] m11 h12) (
j21 [t14, t16] m11 h12))) fun j13 =>
K.geK (K.binV ctx .geq 24 true t6 (.int .u64 (.ofNat 65536))) t6 (.int .u64 (.ofNat 65536)) fun t36 =>
K.iteV t36 (
K.oK (K.binV ctx .shr 24 true t6 (.int .u64 (.ofNat 16))) fun t37 =>
K.addK (K.binV ctx .add 3 true t8 (.int .i64 (.ofNat 16))) t8 (.int .i64 (.ofNat 16)) fun t38 =>
j13 [t37, t38] m3 h4) (
j13 [t6, t8] m3 h4))) fun j5 =>
K.geK (K.binV ctx .geq 24 true t0 (.int .u64 (.ofNat 4294967296))) t0 (.int .u64 (.ofNat 4294967296)) fun t39 =>
K.iteV t39 (
K.oK (K.binV ctx .shr 24 true t0 (.int .u64 (.ofNat 32))) fun t40 =>
j5 [t40, (.int .i64 (.ofNat 32))] [] h) (
j5 [t0, (.int .i64 (.ofNat 0))] [] h))
noncomputable def r273 : K.KRun → List AV → H → K.KR := fun run args h => K.uncons args fun t0 l1 => K.uncons l1 fun t2 l3 => K.unnil l3 (
K.eqK (K.binV ctx .eql 198 true t0 .nilPtr) t0 .nilPtr fun t4 =>
K.letK (fun (t5 : AV) (h6 : H) => K.letK (fun (t8 : AV) (h9 : H) => K.letK (fun (t11 : AV) (h12 : H) => K.letK (fun (t14 : AV) (h15 : H) => K.pickK t4 (.bool true) t14 fun t17 =>
K.iteV t17 (
K.unmarkK [] h15 fun h18 => .ok (.int .u64 (.ofNat 0)) h18) (
K.nilK t0 fun t19 =>
K.fldK 0 t19 fun t20 =>
K.ldK ctx 131 t20 h15 fun t21 =>
K.callVK run t2 [t21] h15 fun t22 h23 =>
K.extK t22 0 fun t24 =>
K.extK t22 1 fun t25 =>
K.eqK (K.binV ctx .eql 3 true t25 (.int .i64 (.ofNat 0))) t25 (.int .i64 (.ofNat 0)) fun t26 =>
K.nilK t0 fun t27 =>
K.fldK 1 t27 fun t28 =>
K.stK t28 t26 h23 fun h29 =>
K.nilK t0 fun t30 =>
K.fldK 1 t30 fun t31 =>
K.ldK ctx 4 t31 h29 fun t32 =>
K.iteV t32 (
K.unmarkK [] h29 fun h33 => .ok (.int .u64 (.ofNat 0)) h33) (
K.nilK t0 fun t34 =>
K.fldK 0 t34 fun t35 =>
K.ldK ctx 131 t35 h29 fun t36 =>
K.slcK ctx 131 t36 (some t25) none none h29 fun t37 =>
K.nilK t0 fun t38 =>
K.fldK 0 t38 fun t39 =>
K.stK t39 t37 h29 fun h40 =>
K.unmarkK [] h40 fun h41 => .ok t24 h41))) fun j16 =>
K.guK false t4 (K.ldK ctx 4 t11 h12 fun t42 =>
j16 t42 h12) (j16 (.tup []) h12)) fun j13 =>
K.guK false t4 (K.fldK 1 t8 fun t43 =>
j13 t43 h9) (j13 (.tup []) h9)) fun j10 =>
K.guK false t4 (K.nilK t5 fun t44 =>
j10 t44 h6) (j10 (.tup []) h6)) fun j7 =>
K.guK false t4 (j7 t0 h) (j7 (.tup []) h))
noncomputable def r274 : K.KRun → List AV → H → K.KR := fun run args h => K.uncons args fun t0 l1 => K.unnil l1 (
K.allocK (K.zN ctx 24) (K.zT ctx 24) h fun t2 h3 =>
K.callFK run 177 [t0] h3 fun t4 h5 =>
K.extK t4 0 fun t6 =>
K.extK t4 1 fun t7 =>
K.eqK (K.binV ctx .eql 3 true t7 (.int .i64 (.ofNat 0))) t7 (.int .i64 (.ofNat 0)) fun t8 =>
K.letK (fun (t9 : AV) (h10 : H) => K.letK (fun (t12 : AV) (h13 : H) => K.pickK t8 (.bool true) t12 fun t15 =>
K.letK (fun (t16 : AV) (h17 : H) => K.letK (fun (t19 : AV) (h20 : H) => K.letK (fun (t22 : AV) (h23 : H) => K.letK (fun (t25 : AV) (h26 : H) => K.letK (fun (t28 : AV) (h29 : H) => K.pickK t15 (.bool true) t28 fun t31 =>
K.iteV t31 (
K.stK t2 (.int .u64 (.ofNat 0)) h29 fun h32 =>
K.unmarkK [] h32 fun h33 => K.asPtr t2 fun n34 n35 => K.load1 h33 n34 n35 fun t36 => .ok (.tup [t36, (.int .i64 (.ofNat 0))]) h33) (
K.addK (K.binV ctx .add 5 true (.int .u8 (.ofNat 1)) t6) (.int .u8 (.ofNat 1)) t6 fun t37 =>
K.slcK ctx 131 t0 (some (.int .i64 (.ofNat 1))) (some t37) none h29 fun t38 =>
K.letK (fun (l39 : List AV) (m40 : List Nat) (h41 : H) => K.uncons l39 fun t43 l44 => K.uncons l44 fun t45 l46 => K.uncons l46 fun t47 l48 => K.unnil l48 (
K.gtK (K.binV ctx .gtr 5 true t45 (.int .u8 (.ofNat 0))) t45 (.int .u8 (.ofNat 0)) fun t49 =>
K.letK (fun (t50 : AV) (h51 : H) => K.letK (fun (t53 : AV) (h54 : H) => K.letK (fun (t56 : AV) (h57 : H) => K.letK (fun (t59 : AV) (h60 : H) => K.letK (fun (t62 : AV) (h63 : H) => K.letK (fun (t65 : AV) (h66 : H) => K.pickK t49 t65 (.bool false) fun t68 =>
K.iteV t68 (
K.stK t43 (.int .u64 (.ofNat 0)) h66 fun h69 =>
K.unmarkK m40 h69 fun h70 => K.asPtr t43 fun n71 n72 => K.load1 h70 n71 n72 fun t73 => .ok (.tup [t73, (.int .i64 (.ofNat 0))]) h70) (
K.ldK ctx 24 t43 h66 fun t74 =>
K.rK (convA ctx 5 3 t45 h66) fun t75 h76 =>
K.addK (K.binV ctx .add 3 true (.int .i64 (.ofNat 1)) t75) (.int .i64 (.ofNat 1)) t75 fun t77 =>
K.stK t43 t74 h76 fun h78 =>
K.unmarkK m40 h78 fun h79 => K.asPtr t43 fun n80 n81 => K.load1 h79 n80 n81 fun t82 => .ok (.tup [t82, t77]) h79)) fun j67 =>
K.guK true t49 (K.eqK (K.binV ctx .eql 5 true t62 (.int .u8 (.ofNat 0))) t62 (.int .u8 (.ofNat 0)) fun t83 =>
j67 t83 h63) (j67 (.tup []) h63)) fun j64 =>
K.guK true t49 (K.ldK ctx 5 t59 h60 fun t84 =>
j64 t84 h60) (j64 (.tup []) h60)) fun j61 =>
K.guK true t49 (K.idxSK 1 t50 t56 fun t85 =>
j61 t85 h57) (j61 (.tup []) h57)) fun j58 =>
K.guK true t49 (K.subK (K.binV ctx .sub 5 true t53 (.int .u8 (.ofNat 1))) t53 (.int .u8 (.ofNat 1)) fun t86 =>
j58 t86 h54) (j58 (.tup []) h54)) fun j55 =>
K.guK true t49 (j55 t45 h51) (j55 (.tup []) h51)) fun j52 =>
K.guK true t49 (j52 t47 h41) (j52 (.tup []) h41))) fun j42 =>
K.callFK run 126 [t38] h29 fun t87 h88 =>
K.hNew h88 .marks fun r89 h90 => K.hNew h90 (.loop .ready none (K.mkT [2, 4, 6, 32] [t2, t6, t38, t87]) 6 r89) fun n91 h92 =>
K.rngK ctx run t87 n91 h92 (fun h94 => j42 [t2, t6, t38] (r89 :: []) h94) (fun h95 => K.unmarkK (r89 :: []) h95 fun h98 => K.asPtr t2 fun n99 n100 => K.load1 h98 n99 n100 fun t101 => .bad) fun i93 h96 => (Bool.rec (motive := fun _ => K.KR) (.bad) (j42 [t2, t6, t38] (r89 :: []) h96) (Nat.beq i93 0)))) fun j30 =>
K.guK false t15 (K.geK (K.binV ctx .geq 3 false t19 t25) t19 t25 fun t102 =>
j30 t102 h26) (j30 (.tup []) h26)) fun j27 =>
K.guK false t15 (K.lenVK t22 fun t103 =>
j27 t103 h23) (j27 (.tup []) h23)) fun j24 =>
K.guK false t15 (j24 t0 h20) (j24 (.tup []) h20)) fun j21 =>
K.guK false t15 (K.rK (convA ctx 5 3 t16 h17) fun t104 h105 =>
j21 t104 h105) (j21 (.tup []) h17)) fun j18 =>
K.guK false t15 (j18 t6 h13) (j18 (.tup []) h13)) fun j14 =>
K.guK false t8 (K.gtK (K.binV ctx .gtr 5 true t9 (.int .u8 (.ofNat 8))) t9 (.int .u8 (.ofNat 8)) fun t106 =>
j14 t106 h10) (j14 (.tup []) h10)) fun j11 =>
K.guK false t8 (j11 t6 h5) (j11 (.tup []) h5))
noncomputable def r275 : K.KRun → List AV → H → K.KR := fun run args h => K.uncons args fun t0 l1 => K.unnil l1 (
K.letK (fun (l2 : List AV) (m3 : List Nat) (h4 : H) => K.uncons l2 fun t6 l7 => K.unnil l7 (
K.idxSK 1 t6 (.int .i64 (.ofNat 0)) fun t8 =>
K.ldK ctx 24 t8 h4 fun t9 =>
K.letK (fun (l10 : List AV) (m11 : List Nat) (h12 : H) => K.uncons l10 fun t14 l15 => K.unnil l15 (
K.unmarkK m11 h12 fun h16 => .ok t14 h16)) fun j13 =>
K.loopV (nat_lit 1000000) (fun s20 l17 m18 h19 => K.uncons l17 fun t21 l22 => K.uncons l22 fun t23 l24 => K.uncons l24 fun t25 l26 => K.unnil l26 (
K.lenVK t21 fun t27 =>
K.ltK (K.binV ctx .lss 3 false t25 t27) t25 t27 fun t28 =>
K.iteV t28 (
K.idxSK 1 t21 t25 fun t29 =>
K.ldK ctx 24 t29 h19 fun t30 =>
K.slowK ctx run (K.opAt Go.Proofs.Tryz.f275 7 5) [18, 22] [t23, t30] h19 fun t31 h32 =>
K.addK (K.binV ctx .add 3 true t25 (.int .i64 (.ofNat 1))) t25 (.int .i64 (.ofNat 1)) fun t33 =>
s20 [t21, t31, t33] m18 h32) (
j13 [t23] m18 h19))) [t6, t9, (.int .i64 (.ofNat 1))] m3 h4)) fun j5 =>
K.lenVK t0 fun t34 =>
K.ltK (K.binV ctx .lss 3 true t34 (.int .i64 (.ofNat 1))) t34 (.int .i64 (.ofNat 1)) fun t35 =>
K.iteV t35 (
K.slowK ctx run (K.opAt Go.Proofs.Tryz.f275 2 1) [8] [(.iface 9 (.str [115, 108, 105, 99, 101, 115, 46, 77, 97, 120, 58, 32, 101, 109, 112, 116, 121, 32, 108, 105, 115, 116]))] h fun t36 h37 =>
j5 [t0] [] h37) (
j5 [t0] [] h))
noncomputable def r278 : K.KRun → List AV → H → K.KR := fun run args h => K.uncons args fun t0 l1 => K.uncons l1 fun t2 l3 => K.uncons l3 fun t4 l5 => K.unnil l5 (
K.boxK t4 h fun t6 h7 =>
K.letK (fun (l8 : List AV) (m9 : List Nat) (h10 : H) => K.unnil l8 (
K.unmarkK m9 h10 fun h12 => .ok (.int .i64 (.ofNat 0)) h12)) fun j11 =>
K.ldsK ctx 296 10 t6 h7 fun t13 =>
K.loopV (nat_lit 1000000) (fun s17 l14 m15 h16 => K.uncons l14 fun t18 l19 => K.uncons l19 fun t20 l21 => K.uncons l21 fun t22 l23 => K.uncons l23 fun t24 l25 => K.unnil l25 (
K.ltK (K.binV ctx .lss 3 true t24 (.int .i64 (.ofNat 10))) t24 (.int .i64 (.ofNat 10)) fun t26 =>
K.iteV t26 (
K.idxK ctx 24 1 10 t22 t24 fun t27 =>
K.addK (K.binV ctx .add 3 false t20 t24) t20 t24 fun t28 =>
K.callFK run 124 [t18, t28, t27] h16 fun t29 h30 =>
K.neK (K.binV ctx .neq 28 true t29 (.int .i64 (.ofNat 0))) t29 (.int .i64 (.ofNat 0)) fun t31 =>
K.iteV t31 (
K.unmarkK m15 h30 fun h32 => .ok t29 h32) (
K.addK (K.binV ctx .add 3 true t24 (.int .i64 (.ofNat 1))) t24 (.int .i64 (.ofNat 1)) fun t33 =>
s17 [t18, t20, t22, t33] m15 h30)) (
j11 [] m15 h16))) [t0, t2, t13, (.int .i64 (.ofNat 0))] [] h7)
noncomputable def r279 : K.KRun → List AV → H → K.KR := fun run args h => K.uncons args fun t0 l1 => K.uncons l1 fun t2 l3 => K.uncons l3 fun t4 l5 => K.unnil l5 (
K.eqK (K.binV ctx .eql 43 true t0 .nilPtr) t0 .nilPtr fun t6 =>
K.iteV t6 (
K.unmarkK [] h fun h7 => .ok (.tup [.nilPtr, (.int .i64 (.ofNat 2))]) h7) (
K.ltK (K.binV ctx .lss 3 true t4 (.int .i64 (.ofNat 1))) t4 (.int .i64 (.ofNat 1)) fun t8 =>
K.iteV t8 (
K.unmarkK [] h fun h9 => .ok (.tup [.nilPtr, (.int .i64 (.ofNat 1))]) h9) (
K.letK (fun (l10 : List AV) (m11 : List Nat) (h12 : H) => K.uncons l10 fun t14 l15 => K.uncons l15 fun t16 l17 => K.uncons l17 fun t18 l19 => K.uncons l19 fun t20 l21 => K.unnil l21 (
K.iteV t20 (
K.unmarkK m11 h12 fun h22 => .ok (.tup [.nilPtr, (.int .i64 (.ofNat 8))]) h22) (
K.bldSK ctx 426 [(0, t14), (1, t16), (2, t18)] fun t23 =>
K.boxK t23 h12 fun t24 h25 =>
K.unmarkK m11 h25 fun h26 => .ok (.tup [t24, (.int .i64 (.ofNat 0))]) h26))) fun j13 =>
K.ltK (K.binV ctx .lss 3 true t2 (.int .i64 (.ofNat 0))) t2 (.int .i64 (.ofNat 0)) fun t27 =>
K.iteV t27 (
j13 [t0, t2, t4, t27] [] h) (
K.callFK run 79 [t0] h fun t28 h29 =>
K.geK (K.binV ctx .geq 3 false t2 t28) t2 t28 fun t30 =>
K.iteV t30 (
j13 [t0, t2, t4, t30] [] h29) (
K.subK (K.binV ctx .sub 3 true t4 (.int .i64 (.ofNat 1))) t4 (.int .i64 (.ofNat 1)) fun t31 =>
K.oK (K.binV ctx .quo 3 true t31 (.int .i64 (.ofNat 64))) fun t32 =>
K.callFK run 79 [t0] h29 fun t33 h34 =>
K.subK (K.binV ctx .sub 3 false t33 t2) t33 t2 fun t35 =>
K.geK (K.binV ctx .geq 3 false t32 t35) t32 t35 fun t36 =>
j13 [t0, t2, t4, t36] [] h34)))))
noncomputable def r281 : K.KRun → List AV → H → K.KR := fun run args h => K.uncons args fun t0 l1 => K.uncons l1 fun t2 l3 => K.unnil l3 (
K.callFK run 341 [t0, t2] h fun t4 h5 =>
K.unmarkK [] h5 fun h6 => .ok t4 h6)
noncomputable def r282 : K.KRun → List AV → H → K.KR := fun run args h => K.uncons args fun t0 l1 => K.unnil l1 (
K.boxK t0 h fun t2 h3 =>
K.unmarkK [] h3 fun h4 => .ok (.func (.func 342) [] [t2]) h4)
noncomputable def r283 : K.KRun → List AV → H → K.KR := fun run args h => K.uncons args fun t0 l1 => K.unnil l1 (
K.lenTK t0 fun t2 =>
K.geK (K.binV ctx .geq 3 true t2 (.int .i64 (.ofNat 1))) t2 (.int .i64 (.ofNat 1)) fun t3 =>
K.letK (fun (t4 : AV) (h5 : H) => K.letK (fun (t7 : AV) (h8 : H) => K.letK (fun (t10 : AV) (h11 : H) => K.pickK t3 t10 (.bool false) fun t13 =>
K.letK (fun (t14 : AV) (h15 : H) => K.letK (fun (t17 : AV) (h18 : H) => K.letK (fun (t20 : AV) (h21 : H) => K.pickK t13 t20 (.bool false) fun t23 =>
K.letK (fun (t24 : AV) (h25 : H) => K.letK (fun (t27 : AV) (h28 : H) => K.pickK t23 t27 (.bool false) fun t30 =>
K.letK (fun (t31 : AV) (h32 : H) => K.letK (fun (t34 : AV) (h35 : H) => K.pickK t30 t34 (.bool false) fun t37 =>
K.unmarkK [] h35 fun h38 => .ok t37 h38) fun j36 =>
K.guK true t30 (K.neK (K.binV ctx .neq 9 true t31 (.str [46, 46])) t31 (.str [46, 46]) fun t39 =>
j36 t39 h32) (j36 (.tup []) h32)) fun j33 =>
K.guK true t30 (j33 t0 h28) (j33 (.tup []) h28)) fun j29 =>
K.guK true t23 (K.neK (K.binV ctx .neq 9 true t24 (.str [46])) t24 (.str [46]) fun t40 =>
j29 t40 h25) (j29 (.tup []) h25)) fun j26 =>
K.guK true t23 (j26 t0 h21) (j26 (.tup []) h21)) fun j22 =>
K.guK true t13 (K.notK t17 fun t41 =>
j22 t41 h18) (j22 (.tup []) h18)) fun j19 =>
K.guK true t13 (K.callFK run 344 [t14, (.str [47, 0])] h15 fun t42 h43 =>
j19 t42 h43) (j19 (.tup []) h15)) fun j16 =>
K.guK true t13 (j16 t0 h11) (j16 (.tup []) h11)) fun j12 =>
K.guK true t3 (K.leK (K.binV ctx .leq 3 true t7 (.int .i64 (.ofNat 40))) t7 (.int .i64 (.ofNat 40)) fun t44 =>
j12 t44 h8) (j12 (.tup []) h8)) fun j9 =>
K.guK true t3 (K.lenTK t4 fun t45 =>
j9 t45 h5) (j9 (.tup []) h5)) fun j6 =>
K.guK true t3 (j6 t0 h) (j6 (.tup []) h))
noncomputable def r284 : K.KRun → List AV → H → K.KR := fun run args h => K.uncons args fun t0 l1 => K.uncons l1 fun t2 l3 => K.uncons l3 fun t4 l5 => K.uncons l5 fun t6 l7 => K.unnil l7 (
K.boxK t2 h fun t8 h9 =>
K.allocK (K.zN ctx 248) (K.zT ctx 248) h9 fun t10 h11 =>
K.ldsK ctx 23 3 t8 h11 fun t12 =>
K.callFK run 245 [t0, t12, t4] h11 fun t13 h14 =>
K.extK t13 0 fun t15 =>
K.extK t13 1 fun t16 =>
K.allocK (K.zN ctx 341) (K.zT ctx 341) h14 fun t17 h18 =>
K.stsK 5 t17 t15 h18 fun h19 =>
K.neK (K.binV ctx .neq 28 true t16 (.int .i64 (.ofNat 0))) t16 (.int .i64 (.ofNat 0)) fun t20 =>
K.iteV t20 (
K.bldSK ctx 248 [] fun t21 =>
K.stsK 2 t10 t21 h19 fun h22 =>
K.unmarkK [] h22 fun h23 => K.asPtr t10 fun n24 n25 => K.loads h23 n24 n25 2 fun t26 => .ok (.tup [(.agg t26), (.int .i64 (.ofNat 0)), t16]) h23) (
K.ldsK ctx 341 5 t17 h19 fun t27 =>
K.callFK run 289 [t27, t6] h19 fun t28 h29 =>
K.extK t28 0 fun t30 =>
K.extK t28 1 fun t31 =>
K.extK t28 2 fun t32 =>
K.stsK 2 t10 t30 h29 fun h33 =>
K.unmarkK [] h33 fun h34 => K.asPtr t10 fun n35 n36 => K.loads h34 n35 n36 2 fun t37 => .ok (.tup [(.agg t37), t31, t32]) h34))
noncomputable def r285 : K.KRun → List AV → H → K.KR := fun run args h => K.uncons args fun t0 l1 => K.uncons l1 fun t2 l3 => K.uncons l3 fun t4 l5 => K.unnil l5 (
K.boxK t2 h fun t6 h7 =>
K.ldsK ctx 23 3 t6 h7 fun t8 =>
K.callFK run 207 [t0, t8] h7 fun t9 h10 =>
K.extK t9 0 fun t11 =>
K.extK t9 1 fun t12 =>
K.allocK (K.zN ctx 308) (K.zT ctx 308) h10 fun t13 h14 =>
K.stsK 4 t13 t11 h14 fun h15 =>
K.neK (K.binV ctx .neq 28 true t12 (.int .i64 (.ofNat 0))) t12 (.int .i64 (.ofNat 0)) fun t16 =>
K.iteV t16 (
K.unmarkK [] h15 fun h17 => .ok (.tup [(.int .i64 (.ofNat 0)), (.str []), t12]) h17) (
K.callFK run 208 [t4] h15 fun t18 h19 =>
K.extK t18 0 fun t20 =>
K.extK t18 1 fun t21 =>
K.letK (fun (l22 : List AV) (m23 : List Nat) (h24 : H) => K.uncons l22 fun t26 l27 => K.uncons l27 fun t28 l29 => K.uncons l29 fun t30 l31 => K.uncons l31 fun t32 l33 => K.uncons l33 fun t34 l35 => K.unnil l35 (
K.neK (K.binV ctx .neq 28 true t30 (.int .i64 (.ofNat 0))) t30 (.int .i64 (.ofNat 0)) fun t36 =>
K.iteV t36 (
K.unmarkK m23 h24 fun h37 => .ok (.tup [(.int .i64 (.ofNat 0)), (.str []), t30]) h37) (
K.lenVK t34 fun t38 =>
K.subK (K.binV ctx .sub 3 true t38 (.int .i64 (.ofNat 1))) t38 (.int .i64 (.ofNat 1)) fun t39 =>
K.slcK ctx 311 t34 none (some t39) none h24 fun t40 =>
K.ldsK ctx 308 4 t32 h24 fun t41 =>
K.callFK run 209 [t40, (.func (.func 210) [t41] [])] h24 fun t42 h43 =>
K.extK t42 0 fun t44 =>
K.extK t42 1 fun t45 =>
K.neK (K.binV ctx .neq 28 true t45 (.int .i64 (.ofNat 0))) t45 (.int .i64 (.ofNat 0)) fun t46 =>
K.iteV t46 (
K.unmarkK m23 h43 fun h47 => .ok (.tup [(.int .i64 (.ofNat 0)), (.str []), t45]) h47) (
K.ldsK ctx 23 3 t28 h43 fun t48 =>
K.callFK run 130 [t26, t48, t44] h43 fun t49 h50 =>
K.extK t49 0 fun t51 =>
K.extK t49 1 fun t52 =>
K.allocK (K.zN ctx 230) (K.zT ctx 230) h50 fun t53 h54 =>
K.stsK 10 t53 t51 h54 fun h55 =>
K.letK (fun (l56 : List AV) (m57 : List Nat) (h58 : H) => K.uncons l56 fun t60 l61 => K.uncons l61 fun t62 l63 => K.uncons l63 fun t64 l65 => K.uncons l65 fun t66 l67 => K.unnil l67 (
K.neK (K.binV ctx .neq 28 true t60 (.int .i64 (.ofNat 0))) t60 (.int .i64 (.ofNat 0)) fun t68 =>
K.iteV t68 (
K.unmarkK m57 h58 fun h69 => .ok (.tup [(.int .i64 (.ofNat 0)), (.str []), t60]) h69) (
K.idxSK 1 t62 t64 fun t70 =>
K.ldK ctx 9 t70 h58 fun t71 =>
K.unmarkK m57 h58 fun h72 => .ok (.tup [t66, t71, (.int .i64 (.ofNat 0))]) h72))) fun j59 =>
K.eqK (K.binV ctx .eql 28 true t52 (.int .i64 (.ofNat 0))) t52 (.int .i64 (.ofNat 0)) fun t73 =>
K.letK (fun (t74 : AV) (h75 : H) => K.letK (fun (t77 : AV) (h78 : H) => K.letK (fun (t80 : AV) (h81 : H) => K.pickK t73 t80 (.bool false) fun t83 =>
K.iteV t83 (
j59 [(.int .i64 (.ofNat 10)), t34, t39, t44] m23 h81) (
j59 [t52, t34, t39, t44] m23 h81)) fun j82 =>
K.guK true t73 (K.neK (K.binV ctx .neq 24 true t77 (.int .u64 (.ofNat 2))) t77 (.int .u64 (.ofNat 2)) fun t84 =>
j82 t84 h78) (j82 (.tup []) h78)) fun j79 =>
K.guK true t73 (K.ldK ctx 24 t74 h75 fun t85 =>
j79 t85 h75) (j79 (.tup []) h75)) fun j76 =>
K.guK true t73 (K.fldK 0 t53 fun t86 =>
j76 t86 h55) (j76 (.tup []) h55))))) fun j25 =>
K.eqK (K.binV ctx .eql 28 true t21 (.int .i64 (.ofNat 0))) t21 (.int .i64 (.ofNat 0)) fun t87 =>
K.letK (fun (t88 : AV) (h89 : H) => K.letK (fun (t91 : AV) (h92 : H) => K.letK (fun (t94 : AV) (h95 : H) => K.pickK t87 t94 (.bool false) fun t97 =>
K.iteV t97 (
j25 [t0, t6, (.int .i64 (.ofNat 13)), t13, t20] [] h95) (
j25 [t0, t6, t21, t13, t20] [] h95)) fun j96 =>
K.guK true t87 (K.eqK (K.binV ctx .eql 3 true t91 (.int .i64 (.ofNat 0))) t91 (.int .i64 (.ofNat 0)) fun t98 =>
j96 t98 h92) (j96 (.tup []) h92)) fun j93 =>
K.guK true t87 (K.lenVK t88 fun t99 =>
j93 t99 h89) (j93 (.tup []) h89)) fun j90 =>
K.guK true t87 (j90 t20 h19) (j90 (.tup []) h19)))
noncomputable def r286 : K.KRun → List AV → H → K.KR := fun run args h => K.uncons args fun t0 l1 => K.uncons l1 fun t2 l3 => K.uncons l3 fun t4 l5 => K.unnil l5 (
K.boxK t2 h fun t6 h7 =>
K.fldK 0 t6 fun t8 =>
K.ldK ctx 378 t8 h7 fun t9 =>
K.callFK run 345 [t9] h7 fun t10 h11 =>
K.extK t10 0 fun t12 =>
K.extK t10 1 fun t13 =>
K.notK t13 fun t14 =>
K.iteV t14 (
K.unmarkK [] h11 fun h15 => .ok (.tup [(.int .i64 (.ofNat 0)), (.int .i64 (.ofNat 7))]) h15) (
K.fldK 0 t6 fun t16 =>
K.ldK ctx 378 t16 h11 fun t17 =>
K.callFK run 340 [t17, t12, (.bool true)] h11 fun t18 h19 =>
K.letK (fun (l20 : List AV) (m21 : List Nat) (h22 : H) => K.uncons l20 fun t24 l25 => K.uncons l25 fun t26 l27 => K.unnil l27 (
K.neK (K.binV ctx .neq 28 true t26 (.int .i64 (.ofNat 0))) t26 (.int .i64 (.ofNat 0)) fun t28 =>
K.iteV t28 (
K.unmarkK m21 h22 fun h29 => .ok (.tup [(.int .i64 (.ofNat 0)), t26]) h29) (
K.unmarkK m21 h22 fun h30 => .ok (.tup [t24, (.int .i64 (.ofNat 0))]) h30))) fun j23 =>
K.eqK (K.binV ctx .eql 28 true t18 (.int .i64 (.ofNat 0))) t18 (.int .i64 (.ofNat 0)) fun t31 =>
K.letK (fun (t32 : AV) (h33 : H) => K.letK (fun (t35 : AV) (h36 : H) => K.pickK t31 t35 (.bool false) fun t38 =>
K.iteV t38 (
K.callVK run t4 [t12] h36 fun t39 h40 =>
K.callFK run 346 [t0, t39] h40 fun t41 h42 =>
j23 [t12, t41] [] h42) (
j23 [t12, t18] [] h36)) fun j37 =>
K.guK true t31 (K.neK (K.binV ctx .neq 162 true t32 .nilFunc) t32 .nilFunc fun t43 =>
j37 t43 h33) (j37 (.tup []) h33)) fun j34 =>
K.guK true t31 (j34 t4 h19) (j34 (.tup []) h19)))
noncomputable def r287 : K.KRun → List AV → H → K.KR := fun run args h => K.uncons args fun t0 l1 => K.unnil l1 (
K.boxK t0 h fun t2 h3 =>
K.allocK (K.zN ctx 296) (K.zT ctx 296) h3 fun t4 h5 =>
K.fldK 0 t2 fun t6 =>
K.ldK ctx 24 t6 h5 fun t7 =>
K.fldK 1 t2 fun t8 =>
K.ldK ctx 24 t8 h5 fun t9 =>
K.fldK 2 t2 fun t10 =>
K.ldK ctx 24 t10 h5 fun t11 =>
K.fldK 3 t2 fun t12 =>
K.ldK ctx 24 t12 h5 fun t13 =>
K.fldK 8 t2 fun t14 =>
K.ldK ctx 24 t14 h5 fun t15 =>
K.fldK 9 t2 fun t16 =>
K.ldK ctx 24 t16 h5 fun t17 =>
K.bldAK ctx 296 1 [(0, t7), (1, t9), (2, t11), (3, t13), (8, t15), (9, t17)] fun t18 =>
K.allocK (K.zN ctx 296) (K.zT ctx 296) h5 fun t19 h20 =>
K.stsK 10 t19 t18 h20 fun h21 =>
K.slcK ctx 296 t19 (some (.int .i64 (.ofNat 4))) none none h21 fun t22 =>
K.fldK 4 t2 fun t23 =>
K.slcK ctx 228 t23 none none none h21 fun t24 =>
K.slowK ctx run (K.opAt Go.Proofs.Tryz.f287 2 3) [17, 19] [t22, t24] h21 fun t25 h26 =>
K.ldsK ctx 296 10 t19 h26 fun t27 =>
K.stsK 10 t4 t27 h26 fun h28 =>
K.unmarkK [] h28 fun h29 => K.asPtr t4 fun n30 n31 => K.loads h29 n30 n31 10 fun t32 => .ok (.agg t32) h29)
noncomputable def r288 : K.KRun → List AV → H → K.KR := fun run args h => K.uncons args fun t0 l1 => K.uncons l1 fun t2 l3 => K.uncons l3 fun t4 l5 => K.unnil l5 (
K.boxK t2 h fun t6 h7 =>
K.boxK t4 h7 fun t8 h9 =>
K.eqK (K.binV ctx .eql 43 true t0 .nilPtr) t0 .nilPtr fun t10 =>
K.iteV t10 (
K.unmarkK [] h9 fun h11 => .ok (.int .i64 (.ofNat 2)) h11) (
K.letK (fun (l12 : List AV) (m13 : List Nat) (h14 : H) => K.uncons l12 fun t16 l17 => K.unnil l17 (
K.iteV t16 (
K.unmarkK m13 h14 fun h18 => .ok (.int .i64 (.ofNat 1)) h18) (
K.unmarkK m13 h14 fun h19 => .ok (.int .i64 (.ofNat 0)) h19))) fun j15 =>
K.fldK 1 t8 fun t20 =>
K.ldK ctx 3 t20 h9 fun t21 =>
K.ltK (K.binV ctx .lss 3 true t21 (.int .i64 (.ofNat 1))) t21 (.int .i64 (.ofNat 1)) fun t22 =>
K.iteV t22 (
j15 [t22] [] h9) (
K.fldK 1 t8 fun t23 =>
K.ldK ctx 3 t23 h9 fun t24 =>
K.fldK 1 t6 fun t25 =>
K.ldK ctx 3 t25 h9 fun t26 =>
K.geK (K.binV ctx .geq 3 false t24 t26) t24 t26 fun t27 =>
j15 [t27] [] h9)))
noncomputable def r289 : K.KRun → List AV → H → K.KR := fun run args h => K.uncons args fun t0 l1 => K.uncons l1 fun t2 l3 => K.unnil l3 (
K.boxK t0 h fun t4 h5 =>
K.boxK t2 h5 fun t6 h7 =>
K.allocK (K.zN ctx 248) (K.zT ctx 248) h7 fun t8 h9 =>
K.allocK (K.zN ctx 3) (K.zT ctx 3) h9 fun t10 h11 =>
K.allocK (K.zN ctx 28) (K.zT ctx 28) h11 fun t12 h13 =>
K.ldK ctx 9 t6 h13 fun t14 =>
K.callFK run 283 [t14] h13 fun t15 h16 =>
K.notK t15 fun t17 =>
K.iteV t17 (
K.bldSK ctx 248 [] fun t18 =>
K.stsK 2 t8 t18 h16 fun h19 =>
K.stK t10 (.int .i64 (.ofNat 0)) h19 fun h20 =>
K.stK t12 (.int .i64 (.ofNat 13)) h20 fun h21 =>
K.unmarkK [] h21 fun h22 => K.asPtr t8 fun n23 n24 => K.loads h22 n23 n24 2 fun t25 => K.asPtr t10 fun n26 n27 => K.load1 h22 n26 n27 fun t28 => K.asPtr t12 fun n29 n30 => K.load1 h22 n29 n30 fun t31 => .ok (.tup [(.agg t25), t28, t31]) h22) (
K.letK (fun (l32 : List AV) (m33 : List Nat) (h34 : H) => K.uncons l32 fun t36 l37 => K.uncons l37 fun t38 l39 => K.uncons l39 fun t40 l41 => K.unnil l41 (
K.bldSK ctx 248 [] fun t42 =>
K.stsK 2 t36 t42 h34 fun h43 =>
K.stK t38 (.int .i64 (.ofNat 0)) h43 fun h44 =>
K.stK t40 (.int .i64 (.ofNat 6)) h44 fun h45 =>
K.unmarkK m33 h45 fun h46 => K.asPtr t36 fun n47 n48 => K.loads h46 n47 n48 2 fun t49 => K.asPtr t38 fun n50 n51 => K.load1 h46 n50 n51 fun t52 => K.asPtr t40 fun n53 n54 => K.load1 h46 n53 n54 fun t55 => .ok (.tup [(.agg t49), t52, t55]) h46)) fun j35 =>
K.ldK ctx 9 t6 h16 fun t56 =>
K.callFK run 347 [t56] h16 fun t57 h58 =>
K.callFK run 246 [t57] h58 fun t59 h60 =>
K.hNew h60 .marks fun r61 h62 => K.hNew h62 (.loop .ready none (K.mkT [2, 3, 4, 5, 6, 16] [t4, t6, t8, t10, t12, t59]) 7 r61) fun n63 h64 =>
K.rngK ctx run t59 n63 h64 (fun h66 => j35 [t8, t10, t12] (r61 :: []) h66) (fun h67 => K.unmarkK (r61 :: []) h67 fun h70 => K.asPtr t8 fun n71 n72 => K.loads h70 n71 n72 2 fun t73 => K.asPtr t10 fun n74 n75 => K.load1 h70 n74 n75 fun t76 => K.asPtr t12 fun n77 n78 => K.load1 h70 n77 n78 fun t79 => .ok (.tup [(.agg t73), t76, t79]) h70) fun i65 h68 => (Bool.rec (motive := fun _ => K.KR) (.bad) (j35 [t8, t10, t12] (r61 :: []) h68) (Nat.beq i65 0))))
noncomputable def r290 : K.KRun → List AV → H → K.KR := fun run args h => K.uncons args fun t0 l1 => K.uncons l1 fun t2 l3 => K.unnil l3 (
K.boxK t0 h fun t4 h5 =>
K.boxK t2 h5 fun t6 h7 =>
K.allocK (K.zN ctx 28) (K.zT ctx 28) h7 fun t8 h9 =>
K.letK (fun (l10 : List AV) (m11 : List Nat) (h12 : H) => K.uncons l10 fun t14 l15 => K.unnil l15 (
K.stK t14 (.int .i64 (.ofNat 16)) h12 fun h16 =>
K.unmarkK m11 h16 fun h17 => K.asPtr t14 fun n18 n19 => K.load1 h17 n18 n19 fun t20 => .ok t20 h17)) fun j13 =>
K.fldK 0 t6 fun t21 =>
K.ldK ctx 9 t21 h9 fun t22 =>
K.callFK run 347 [t22] h9 fun t23 h24 =>
K.callFK run 246 [t23] h24 fun t25 h26 =>
K.hNew h26 .marks fun r27 h28 => K.hNew h28 (.loop .ready none (K.mkT [2, 3, 4, 16] [t4, t6, t8, t25]) 8 r27) fun n29 h30 =>
K.rngK ctx run t25 n29 h30 (fun h32 => j13 [t8] (r27 :: []) h32) (fun h33 => K.unmarkK (r27 :: []) h33 fun h36 => K.asPtr t8 fun n37 n38 => K.load1 h36 n37 n38 fun t39 => .ok t39 h36) fun i31 h34 => (Bool.rec (motive := fun _ => K.KR) (.bad) (j13 [t8] (r27 :: []) h34) (Nat.beq i31 0)))
noncomputable def r291 : K.KRun → List AV → H → K.KR := fun run args h => K.uncons args fun t0 l1 => K.uncons l1 fun t2 l3 => K.unnil l3 (
K.letK (fun (l4 : List AV) (m5 : List Nat) (h6 : H) => K.uncons l4 fun t8 l9 => K.uncons l9 fun t10 l11 => K.unnil l11 (
K.callVK run t10 [t8] h6 fun t12 h13 =>
K.extK t12 0 fun t14 =>
K.extK t12 1 fun t15 =>
K.unmarkK m5 h13 fun h16 => .ok (.tup [t14, t15]) h16)) fun j7 =>
K.geK (K.binV ctx .geq 3 true t2 (.int .i64 (.ofNat 4))) t2 (.int .i64 (.ofNat 4)) fun t17 =>
K.iteV t17 (
j7 [t2, (.func (.func 349) [t0] [])] [] h) (
j7 [t2, (.func (.func 348) [t0] [])] [] h))
end YtlmgehjkbgaknaaGreatDoorPlM
