/- PRINTED BY Gen2.lean (own): functions as plain texts, part 0. -/
import Derived.Test.YtlmgehjkbgaknaaGreatDoorPlCtx
namespace YtlmgehjkbgaknaaGreatDoorPlM
open Go Am
set_option maxRecDepth 100000
noncomputable def r5 : K.KRun → List AV → H → K.KR := fun run args h => K.uncons args fun t0 l1 => K.uncons l1 fun t2 l3 => K.uncons l3 fun t4 l5 => K.uncons l5 fun t6 l7 => K.uncons l7 fun t8 l9 => K.unnil l9 (
K.boxK t8 h fun t10 h11 =>
K.allocK (K.zN ctx 30) (K.zT ctx 30) h11 fun t12 h13 =>
K.callFK run 26 [t0] h13 fun t14 h15 =>
K.extK t14 0 fun t16 =>
K.extK t14 1 fun t17 =>
K.allocK (K.zN ctx 23) (K.zT ctx 23) h15 fun t18 h19 =>
K.stsK 3 t18 t16 h19 fun h20 =>
K.notK t17 fun t21 =>
K.iteV t21 (
K.ldsK ctx 30 4 (.gptr 0 0) h20 fun t22 =>
K.stsK 4 t12 t22 h20 fun h23 =>
K.unmarkK [] h23 fun h24 => K.asPtr t12 fun n25 n26 => K.loads h24 n25 n26 4 fun t27 => .ok (.tup [(.int .u8 (.ofNat 0)), (.agg t27), .nilSlice, (.int .i64 (.ofNat 4))]) h24) (
K.ldsK ctx 26 8 t10 h20 fun t28 =>
K.callFK run 27 [t28] h20 fun t29 h30 =>
K.notK t29 fun t31 =>
K.iteV t31 (
K.ldsK ctx 30 4 (.gptr 0 0) h30 fun t32 =>
K.stsK 4 t12 t32 h30 fun h33 =>
K.unmarkK [] h33 fun h34 => K.asPtr t12 fun n35 n36 => K.loads h34 n35 n36 4 fun t37 => .ok (.tup [(.int .u8 (.ofNat 0)), (.agg t37), .nilSlice, (.int .i64 (.ofNat 1))]) h34) (
K.callFK run 12 [t0] h30 fun t38 h39 =>
K.callFK run 28 [t38, t2, t4, t6] h39 fun t40 h41 =>
K.extK t40 0 fun t42 =>
K.extK t40 1 fun t43 =>
K.extK t40 2 fun t44 =>
K.allocK (K.zN ctx 30) (K.zT ctx 30) h41 fun t45 h46 =>
K.stsK 4 t45 t43 h46 fun h47 =>
K.neK (K.binV ctx .neq 28 true t44 (.int .i64 (.ofNat 0))) t44 (.int .i64 (.ofNat 0)) fun t48 =>
K.letK (fun (t49 : AV) (h50 : H) => K.letK (fun (t52 : AV) (h53 : H) => K.pickK t48 (.bool true) t52 fun t55 =>
K.iteV t55 (
K.ldsK ctx 30 4 t45 h53 fun t56 =>
K.stsK 4 t12 t56 h53 fun h57 =>
K.unmarkK [] h57 fun h58 => K.asPtr t12 fun n59 n60 => K.loads h58 n59 n60 4 fun t61 => .ok (.tup [t42, (.agg t61), .nilSlice, t44]) h58) (
K.ldsK ctx 23 3 t18 h53 fun t62 =>
K.ldsK ctx 26 8 t10 h53 fun t63 =>
K.callFK run 11 [t38, t62, t2, t63] h53 fun t64 h65 =>
K.stsK 4 t45 t64 h65 fun h66 =>
K.letK (fun (l67 : List AV) (m68 : List Nat) (h69 : H) => K.uncons l67 fun t71 l72 => K.uncons l72 fun t73 l74 => K.uncons l74 fun t75 l76 => K.uncons l76 fun t77 l78 => K.uncons l78 fun t79 l80 => K.unnil l80 (
K.oK (K.binV ctx .rem 24 true t73 (.int .u64 (.ofNat 4))) fun t81 =>
K.rK (convA ctx 24 3 t81 h69) fun t82 h83 =>
K.ldsK ctx 30 4 t79 h83 fun t84 =>
K.callFK run 30 [t77, t71, t82, t73, t84] h83 fun t85 h86 =>
K.letK (fun (l87 : List AV) (m88 : List Nat) (h89 : H) => K.uncons l87 fun t91 l92 => K.uncons l92 fun t93 l94 => K.uncons l94 fun t95 l96 => K.uncons l96 fun t97 l98 => K.unnil l98 (
K.neK (K.binV ctx .neq 28 true t97 (.int .i64 (.ofNat 0))) t97 (.int .i64 (.ofNat 0)) fun t99 =>
K.iteV t99 (
K.ldsK ctx 30 4 (.gptr 0 0) h89 fun t100 =>
K.stsK 4 t91 t100 h89 fun h101 =>
K.unmarkK m88 h101 fun h102 => K.asPtr t91 fun n103 n104 => K.loads h102 n103 n104 4 fun t105 => .ok (.tup [(.int .u8 (.ofNat 0)), (.agg t105), .nilSlice, t97]) h102) (
K.ldsK ctx 30 4 t95 h89 fun t106 =>
K.callFK run 31 [t93] h89 fun t107 h108 =>
K.ldsK ctx 30 4 t95 h108 fun t109 =>
K.req (AV.same t106 t109) (
K.stsK 4 t91 t106 h108 fun h110 =>
K.unmarkK m88 h110 fun h111 => K.asPtr t91 fun n112 n113 => K.loads h111 n112 n113 4 fun t114 => .ok (.tup [(.int .u8 (.ofNat 0)), (.agg t114), t107, (.int .i64 (.ofNat 0))]) h111)))) fun j90 =>
K.eqK (K.binV ctx .eql 28 true t85 (.int .i64 (.ofNat 5))) t85 (.int .i64 (.ofNat 5)) fun t115 =>
K.iteV t115 (
K.callFK run 29 [t77] h86 fun t116 h117 =>
K.bldSK ctx 30 [(0, (.int .i64 (.ofNat 5)))] fun t118 =>
K.stsK 4 t79 t118 h117 fun h119 =>
K.ldsK ctx 30 4 t79 h119 fun t120 =>
K.callFK run 30 [t77, t71, t82, t73, t120] h119 fun t121 h122 =>
j90 [t75, t77, t79, t121] m68 h122) (
j90 [t75, t77, t79, t85] m68 h86))) fun j70 =>
K.fldK 0 t45 fun t123 =>
K.ldK ctx 28 t123 h66 fun t124 =>
K.neK (K.binV ctx .neq 28 true t124 (.int .i64 (.ofNat 0))) t124 (.int .i64 (.ofNat 0)) fun t125 =>
K.iteV t125 (
K.callFK run 29 [t38] h66 fun t126 h127 =>
j70 [t2, t6, t12, t38, t45] [] h127) (
j70 [t2, t6, t12, t38, t45] [] h66))) fun j54 =>
K.guK false t48 (K.neK (K.binV ctx .neq 27 true t49 (.int .u8 (.ofNat 0))) t49 (.int .u8 (.ofNat 0)) fun t128 =>
j54 t128 h50) (j54 (.tup []) h50)) fun j51 =>
K.guK false t48 (j51 t42 h47) (j51 (.tup []) h47))))
noncomputable def r6 : K.KRun → List AV → H → K.KR := fun run args h => K.uncons args fun t0 l1 => K.uncons l1 fun t2 l3 => K.uncons l3 fun t4 l5 => K.unnil l5 (
K.callFK run 26 [t0] h fun t6 h7 =>
K.extK t6 0 fun t8 =>
K.extK t6 1 fun t9 =>
K.allocK (K.zN ctx 23) (K.zT ctx 23) h7 fun t10 h11 =>
K.stsK 3 t10 t8 h11 fun h12 =>
K.notK t9 fun t13 =>
K.iteV t13 (
K.unmarkK [] h12 fun h14 => .ok (.tup [(.int .u8 (.ofNat 0)), .nilSlice, (.int .i64 (.ofNat 4))]) h14) (
K.callFK run 12 [t0] h12 fun t15 h16 =>
K.callFK run 32 [t15, t2, t4] h16 fun t17 h18 =>
K.extK t17 0 fun t19 =>
K.extK t17 1 fun t20 =>
K.callFK run 33 [t15, t19, t20] h18 fun t21 h22 =>
K.extK t21 0 fun t23 =>
K.extK t21 1 fun t24 =>
K.extK t21 2 fun t25 =>
K.unmarkK [] h22 fun h26 => .ok (.tup [t23, t24, t25]) h26))
noncomputable def r7 : K.KRun → List AV → H → K.KR := fun run args h => K.uncons args fun t0 l1 => K.uncons l1 fun t2 l3 => K.uncons l3 fun t4 l5 => K.unnil l5 (
K.callFK run 26 [t0] h fun t6 h7 =>
K.extK t6 0 fun t8 =>
K.extK t6 1 fun t9 =>
K.allocK (K.zN ctx 23) (K.zT ctx 23) h7 fun t10 h11 =>
K.stsK 3 t10 t8 h11 fun h12 =>
K.notK t9 fun t13 =>
K.iteV t13 (
K.unmarkK [] h12 fun h14 => .ok (.tup [(.int .u8 (.ofNat 0)), .nilSlice, (.int .i64 (.ofNat 4))]) h14) (
K.callFK run 12 [t0] h12 fun t15 h16 =>
K.callFK run 34 [t15, t2, t4] h16 fun t17 h18 =>
K.extK t17 0 fun t19 =>
K.extK t17 1 fun t20 =>
K.letK (fun (l21 : List AV) (m22 : List Nat) (h23 : H) => K.uncons l21 fun t25 l26 => K.uncons l26 fun t27 l28 => K.uncons l28 fun t29 l30 => K.unnil l30 (
K.callFK run 33 [t25, t27, t29] h23 fun t31 h32 =>
K.extK t31 0 fun t33 =>
K.extK t31 1 fun t34 =>
K.extK t31 2 fun t35 =>
K.unmarkK m22 h32 fun h36 => .ok (.tup [t33, t34, t35]) h36)) fun j24 =>
K.eqK (K.binV ctx .eql 28 true t20 (.int .i64 (.ofNat 0))) t20 (.int .i64 (.ofNat 0)) fun t37 =>
K.letK (fun (t38 : AV) (h39 : H) => K.letK (fun (t41 : AV) (h42 : H) => K.pickK t37 t41 (.bool false) fun t44 =>
K.iteV t44 (
K.ldsK ctx 23 3 t10 h42 fun t45 =>
K.callFK run 35 [t15, t45, t2] h42 fun t46 h47 =>
j24 [t15, t19, t46] [] h47) (
j24 [t15, t19, t20] [] h42)) fun j43 =>
K.guK true t37 (K.eqK (K.binV ctx .eql 27 true t38 (.int .u8 (.ofNat 0))) t38 (.int .u8 (.ofNat 0)) fun t48 =>
j43 t48 h39) (j43 (.tup []) h39)) fun j40 =>
K.guK true t37 (j40 t19 h18) (j40 (.tup []) h18)))
noncomputable def r8 : K.KRun → List AV → H → K.KR := fun run args h => K.uncons args fun t0 l1 => K.uncons l1 fun t2 l3 => K.uncons l3 fun t4 l5 => K.uncons l5 fun t6 l7 => K.unnil l7 (
K.callFK run 26 [t0] h fun t8 h9 =>
K.extK t8 0 fun t10 =>
K.extK t8 1 fun t11 =>
K.allocK (K.zN ctx 23) (K.zT ctx 23) h9 fun t12 h13 =>
K.stsK 3 t12 t10 h13 fun h14 =>
K.notK t11 fun t15 =>
K.iteV t15 (
K.unmarkK [] h14 fun h16 => .ok (.tup [(.int .u64 (.ofNat 0)), .nilSlice, (.int .i64 (.ofNat 4))]) h16) (
K.callFK run 12 [t0] h14 fun t17 h18 =>
K.callFK run 36 [t17, t2, t4, t6] h18 fun t19 h20 =>
K.extK t19 0 fun t21 =>
K.extK t19 1 fun t22 =>
K.neK (K.binV ctx .neq 28 true t22 (.int .i64 (.ofNat 0))) t22 (.int .i64 (.ofNat 0)) fun t23 =>
K.iteV t23 (
K.unmarkK [] h20 fun h24 => .ok (.tup [(.int .u64 (.ofNat 0)), .nilSlice, t22]) h24) (
K.callFK run 31 [t17] h20 fun t25 h26 =>
K.unmarkK [] h26 fun h27 => .ok (.tup [t21, t25, (.int .i64 (.ofNat 0))]) h27)))
noncomputable def r9 : K.KRun → List AV → H → K.KR := fun run args h => K.uncons args fun t0 l1 => K.unnil l1 (
K.allocK (K.zN ctx 23) (K.zT ctx 23) h fun t2 h3 =>
K.oK (K.binV ctx .rem 5 true t0 (.int .u8 (.ofNat 39))) fun t4 =>
K.addK (K.binV ctx .add 5 true (.int .u8 (.ofNat 20)) t4) (.int .u8 (.ofNat 20)) t4 fun t5 =>
K.callFK run 37 [(.int .u8 (.ofNat 9)), t5] h3 fun t6 h7 =>
K.stsK 3 t2 t6 h7 fun h8 =>
K.unmarkK [] h8 fun h9 => K.asPtr t2 fun n10 n11 => K.loads h9 n10 n11 3 fun t12 => .ok (.agg t12) h9)
noncomputable def r10 : K.KRun → List AV → H → K.KR := fun run args h => K.uncons args fun t0 l1 => K.unnil l1 (
K.boxK t0 h fun t2 h3 =>
K.ldsK ctx 41 3 t2 h3 fun t4 =>
K.callFK run 38 [t4] h3 fun t5 h6 =>
K.notK t5 fun t7 =>
K.iteV t7 (
K.unmarkK [] h6 fun h8 => .ok .nilSlice h8) (
K.ldsK ctx 41 3 t2 h6 fun t9 =>
K.callFK run 39 [t9] h6 fun t10 h11 =>
K.mslK ctx 24 1 t10 t10 h11 fun t12 h13 =>
K.idxSK 1 t12 (.int .i64 (.ofNat 0)) fun t14 =>
K.stK t14 (.int .u64 (.ofNat 32762617960297063)) h13 fun h15 =>
K.fldK 0 t2 fun t16 =>
K.ldK ctx 3 t16 h15 fun t17 =>
K.rK (convA ctx 3 24 t17 h15) fun t18 h19 =>
K.idxSK 1 t12 (.int .i64 (.ofNat 1)) fun t20 =>
K.stK t20 t18 h19 fun h21 =>
K.fldK 1 t2 fun t22 =>
K.ldK ctx 3 t22 h21 fun t23 =>
K.rK (convA ctx 3 24 t23 h21) fun t24 h25 =>
K.idxSK 1 t12 (.int .i64 (.ofNat 2)) fun t26 =>
K.stK t26 t24 h25 fun h27 =>
K.fldK 2 t2 fun t28 =>
K.ldK ctx 3 t28 h27 fun t29 =>
K.rK (convA ctx 3 24 t29 h27) fun t30 h31 =>
K.idxSK 1 t12 (.int .i64 (.ofNat 3)) fun t32 =>
K.stK t32 t30 h31 fun h33 =>
K.ldsK ctx 41 3 t2 h33 fun t34 =>
K.callFK run 40 [t34] h33 fun t35 h36 =>
K.idxSK 1 t12 t35 fun t37 =>
K.stK t37 (.int .u64 (.ofNat 3)) h36 fun h38 =>
K.ldsK ctx 41 3 t2 h38 fun t39 =>
K.callFK run 41 [t39] h38 fun t40 h41 =>
K.idxSK 1 t12 t40 fun t42 =>
K.stK t42 (.int .u64 (.ofNat 1)) h41 fun h43 =>
K.ldsK ctx 41 3 t2 h43 fun t44 =>
K.callFK run 42 [t44, (.int .i64 (.ofNat 1))] h43 fun t45 h46 =>
K.idxSK 1 t12 t45 fun t47 =>
K.stK t47 (.int .u64 (.ofNat 2)) h46 fun h48 =>
K.ldsK ctx 41 3 t2 h48 fun t49 =>
K.callFK run 42 [t49, (.int .i64 (.ofNat 1))] h48 fun t50 h51 =>
K.addK (K.binV ctx .add 3 true t50 (.int .i64 (.ofNat 1))) t50 (.int .i64 (.ofNat 1)) fun t52 =>
K.idxSK 1 t12 t52 fun t53 =>
K.stK t53 (.int .u64 (.ofNat 1)) h51 fun h54 =>
K.unmarkK [] h54 fun h55 => .ok t12 h55))
noncomputable def r11 : K.KRun → List AV → H → K.KR := fun run args h => K.uncons args fun t0 l1 => K.uncons l1 fun t2 l3 => K.uncons l3 fun t4 l5 => K.uncons l5 fun t6 l7 => K.unnil l7 (
K.boxK t2 h fun t8 h9 =>
K.boxK t6 h9 fun t10 h11 =>
K.allocK (K.zN ctx 30) (K.zT ctx 30) h11 fun t12 h13 =>
K.ldsK ctx 23 3 t8 h13 fun t14 =>
K.bldSK ctx 91 [(0, t0), (1, t14), (2, t4)] fun t15 =>
K.allocK (K.zN ctx 91) (K.zT ctx 91) h13 fun t16 h17 =>
K.stsK 5 t16 t15 h17 fun h18 =>
K.ldsK ctx 91 5 t16 h18 fun t19 =>
K.ldsK ctx 26 8 t10 h18 fun t20 =>
K.callFK run 43 [t19, t20] h18 fun t21 h22 =>
K.neK (K.binV ctx .neq 28 true t21 (.int .i64 (.ofNat 0))) t21 (.int .i64 (.ofNat 0)) fun t23 =>
K.iteV t23 (
K.bldSK ctx 30 [(0, t21)] fun t24 =>
K.stsK 4 t12 t24 h22 fun h25 =>
K.unmarkK [] h25 fun h26 => K.asPtr t12 fun n27 n28 => K.loads h26 n27 n28 4 fun t29 => .ok (.agg t29) h26) (
K.ldsK ctx 91 5 t16 h22 fun t30 =>
K.fldK 0 t10 fun t31 =>
K.ldK ctx 5 t31 h22 fun t32 =>
K.ldsK ctx 26 8 t10 h22 fun t33 =>
K.callFK run 44 [t30] h22 fun t34 h35 =>
K.ldsK ctx 26 8 t10 h35 fun t36 =>
K.req (AV.same t33 t36) (
K.ldK ctx 5 t31 h35 fun t37 =>
K.req (AV.same t32 t37) (
K.slowK ctx run (K.opAt Go.Proofs.Tryz.f11 5 4) [26, 28] [t34, t32] h35 fun t38 h39 =>
K.callVK run t38 [t33] h39 fun t40 h41 =>
K.extK t40 0 fun t42 =>
K.extK t40 1 fun t43 =>
K.allocK (K.zN ctx 30) (K.zT ctx 30) h41 fun t44 h45 =>
K.stsK 4 t44 t42 h45 fun h46 =>
K.neK (K.binV ctx .neq 28 true t43 (.int .i64 (.ofNat 0))) t43 (.int .i64 (.ofNat 0)) fun t47 =>
K.iteV t47 (
K.bldSK ctx 30 [(0, t43)] fun t48 =>
K.stsK 4 t12 t48 h46 fun h49 =>
K.unmarkK [] h49 fun h50 => K.asPtr t12 fun n51 n52 => K.loads h50 n51 n52 4 fun t53 => .ok (.agg t53) h50) (
K.ldsK ctx 30 4 t44 h46 fun t54 =>
K.stsK 4 t12 t54 h46 fun h55 =>
K.unmarkK [] h55 fun h56 => K.asPtr t12 fun n57 n58 => K.loads h56 n57 n58 4 fun t59 => .ok (.agg t59) h56)))))
noncomputable def r12 : K.KRun → List AV → H → K.KR := fun run args h => K.uncons args fun t0 l1 => K.unnil l1 (
K.callFK run 45 [t0] h fun t2 h3 =>
K.slowK ctx run (K.opAt Go.Proofs.Tryz.f12 1 2) [] [] h3 fun t4 h5 =>
K.bldSK ctx 101 [(0, t2), (1, t4)] fun t6 =>
K.boxK t6 h5 fun t7 h8 =>
K.unmarkK [] h8 fun h9 => .ok t7 h9)
noncomputable def r26 : K.KRun → List AV → H → K.KR := fun run args h => K.uncons args fun t0 l1 => K.unnil l1 (
K.allocK (K.zN ctx 23) (K.zT ctx 23) h fun t2 h3 =>
K.lenVK t0 fun t4 =>
K.ltK (K.binV ctx .lss 3 true t4 (.int .i64 (.ofNat 8))) t4 (.int .i64 (.ofNat 8)) fun t5 =>
K.letK (fun (t6 : AV) (h7 : H) => K.letK (fun (t9 : AV) (h10 : H) => K.letK (fun (t12 : AV) (h13 : H) => K.letK (fun (t15 : AV) (h16 : H) => K.pickK t5 (.bool true) t15 fun t18 =>
K.letK (fun (t19 : AV) (h20 : H) => K.letK (fun (t22 : AV) (h23 : H) => K.letK (fun (t25 : AV) (h26 : H) => K.letK (fun (t28 : AV) (h29 : H) => K.letK (fun (t31 : AV) (h32 : H) => K.letK (fun (t34 : AV) (h35 : H) => K.letK (fun (t37 : AV) (h38 : H) => K.letK (fun (t40 : AV) (h41 : H) => K.letK (fun (t43 : AV) (h44 : H) => K.letK (fun (t46 : AV) (h47 : H) => K.letK (fun (t49 : AV) (h50 : H) => K.pickK t18 (.bool true) t49 fun t52 =>
K.iteV t52 (
K.bldSK ctx 23 [] fun t53 =>
K.stsK 3 t2 t53 h50 fun h54 =>
K.unmarkK [] h54 fun h55 => K.asPtr t2 fun n56 n57 => K.loads h55 n56 n57 3 fun t58 => .ok (.tup [(.agg t58), (.bool false)]) h55) (
K.idxSK 1 t0 (.int .i64 (.ofNat 1)) fun t59 =>
K.ldK ctx 24 t59 h50 fun t60 =>
K.rK (convA ctx 24 3 t60 h50) fun t61 h62 =>
K.idxSK 1 t0 (.int .i64 (.ofNat 2)) fun t63 =>
K.ldK ctx 24 t63 h62 fun t64 =>
K.rK (convA ctx 24 3 t64 h62) fun t65 h66 =>
K.idxSK 1 t0 (.int .i64 (.ofNat 3)) fun t67 =>
K.ldK ctx 24 t67 h66 fun t68 =>
K.rK (convA ctx 24 3 t68 h66) fun t69 h70 =>
K.bldSK ctx 23 [(0, t61), (1, t65), (2, t69)] fun t71 =>
K.stsK 3 t2 t71 h70 fun h72 =>
K.ldsK ctx 23 3 t2 h72 fun t73 =>
K.callFK run 53 [t73] h72 fun t74 h75 =>
K.notK t74 fun t76 =>
K.letK (fun (t77 : AV) (h78 : H) => K.letK (fun (t80 : AV) (h81 : H) => K.letK (fun (t83 : AV) (h84 : H) => K.letK (fun (t86 : AV) (h87 : H) => K.letK (fun (t89 : AV) (h90 : H) => K.pickK t76 (.bool true) t89 fun t92 =>
K.iteV t92 (
K.bldSK ctx 23 [] fun t93 =>
K.stsK 3 t2 t93 h90 fun h94 =>
K.unmarkK [] h94 fun h95 => K.asPtr t2 fun n96 n97 => K.loads h95 n96 n97 3 fun t98 => .ok (.tup [(.agg t98), (.bool false)]) h95) (
K.ldsK ctx 23 3 t2 h90 fun t99 =>
K.stsK 3 t2 t99 h90 fun h100 =>
K.unmarkK [] h100 fun h101 => K.asPtr t2 fun n102 n103 => K.loads h101 n102 n103 3 fun t104 => .ok (.tup [(.agg t104), (.bool true)]) h101)) fun j91 =>
K.guK false t76 (K.ltK (K.binV ctx .lss 3 false t80 t86) t80 t86 fun t105 =>
j91 t105 h87) (j91 (.tup []) h87)) fun j88 =>
K.guK false t76 (K.callFK run 54 [t83] h84 fun t106 h107 =>
j88 t106 h107) (j88 (.tup []) h84)) fun j85 =>
K.guK false t76 (K.ldsK ctx 23 3 t2 h81 fun t108 =>
j85 t108 h81) (j85 (.tup []) h81)) fun j82 =>
K.guK false t76 (K.lenVK t77 fun t109 =>
j82 t109 h78) (j82 (.tup []) h78)) fun j79 =>
K.guK false t76 (j79 t0 h75) (j79 (.tup []) h75))) fun j51 =>
K.guK false t18 (K.gtK (K.binV ctx .gtr 24 true t46 (.int .u64 (.ofNat 512))) t46 (.int .u64 (.ofNat 512)) fun t110 =>
j51 t110 h47) (j51 (.tup []) h47)) fun j48 =>
K.guK false t18 (K.slowK ctx run (K.opAt Go.Proofs.Tryz.f26 1 19) [16, 19, 22] [t25, t34, t43] h44 fun t111 h112 =>
j48 t111 h112) (j48 (.tup []) h44)) fun j45 =>
K.guK false t18 (K.ldK ctx 24 t40 h41 fun t113 =>
j45 t113 h41) (j45 (.tup []) h41)) fun j42 =>
K.guK false t18 (K.idxSK 1 t37 (.int .i64 (.ofNat 3)) fun t114 =>
j42 t114 h38) (j42 (.tup []) h38)) fun j39 =>
K.guK false t18 (j39 t0 h35) (j39 (.tup []) h35)) fun j36 =>
K.guK false t18 (K.ldK ctx 24 t31 h32 fun t115 =>
j36 t115 h32) (j36 (.tup []) h32)) fun j33 =>
K.guK false t18 (K.idxSK 1 t28 (.int .i64 (.ofNat 2)) fun t116 =>
j33 t116 h29) (j33 (.tup []) h29)) fun j30 =>
K.guK false t18 (j30 t0 h26) (j30 (.tup []) h26)) fun j27 =>
K.guK false t18 (K.ldK ctx 24 t22 h23 fun t117 =>
j27 t117 h23) (j27 (.tup []) h23)) fun j24 =>
K.guK false t18 (K.idxSK 1 t19 (.int .i64 (.ofNat 1)) fun t118 =>
j24 t118 h20) (j24 (.tup []) h20)) fun j21 =>
K.guK false t18 (j21 t0 h16) (j21 (.tup []) h16)) fun j17 =>
K.guK false t5 (K.neK (K.binV ctx .neq 24 true t12 (.int .u64 (.ofNat 32762617960297063))) t12 (.int .u64 (.ofNat 32762617960297063)) fun t119 =>
j17 t119 h13) (j17 (.tup []) h13)) fun j14 =>
K.guK false t5 (K.ldK ctx 24 t9 h10 fun t120 =>
j14 t120 h10) (j14 (.tup []) h10)) fun j11 =>
K.guK false t5 (K.idxSK 1 t6 (.int .i64 (.ofNat 0)) fun t121 =>
j11 t121 h7) (j11 (.tup []) h7)) fun j8 =>
K.guK false t5 (j8 t0 h3) (j8 (.tup []) h3))
noncomputable def r27 : K.KRun → List AV → H → K.KR := fun run args h => K.uncons args fun t0 l1 => K.unnil l1 (
K.boxK t0 h fun t2 h3 =>
K.ldsK ctx 26 8 t2 h3 fun t4 =>
K.callFK run 62 [t4] h3 fun t5 h6 =>
K.callFK run 61 [t5] h6 fun t7 h8 =>
K.extK t7 0 fun t9 =>
K.extK t7 1 fun t10 =>
K.allocK (K.zN ctx 26) (K.zT ctx 26) h8 fun t11 h12 =>
K.stsK 8 t11 t9 h12 fun h13 =>
K.letK (fun (t14 : AV) (h15 : H) => K.letK (fun (t17 : AV) (h18 : H) => K.letK (fun (t20 : AV) (h21 : H) => K.pickK t10 t20 (.bool false) fun t23 =>
K.unmarkK [] h21 fun h24 => .ok t23 h24) fun j22 =>
K.guK true t10 (K.eqK (K.binV ctx .eql 26 false t14 t17) t14 t17 fun t25 =>
j22 t25 h18) (j22 (.tup []) h18)) fun j19 =>
K.guK true t10 (K.ldsK ctx 26 8 t2 h15 fun t26 =>
j19 t26 h15) (j19 (.tup []) h15)) fun j16 =>
K.guK true t10 (K.ldsK ctx 26 8 t11 h13 fun t27 =>
j16 t27 h13) (j16 (.tup []) h13))
noncomputable def r28 : K.KRun → List AV → H → K.KR := fun run args h => K.uncons args fun t0 l1 => K.uncons l1 fun t2 l3 => K.uncons l3 fun t4 l5 => K.uncons l5 fun t6 l7 => K.unnil l7 (
K.allocK (K.zN ctx 30) (K.zT ctx 30) h fun t8 h9 =>
K.bldSK ctx 30 [] fun t10 =>
K.allocK (K.zN ctx 30) (K.zT ctx 30) h9 fun t11 h12 =>
K.stsK 4 t11 t10 h12 fun h13 =>
K.callFK run 63 [t0, t6, (.int .u64 (.ofNat 1))] h13 fun t14 h15 =>
K.neK (K.binV ctx .neq 28 true t14 (.int .i64 (.ofNat 0))) t14 (.int .i64 (.ofNat 0)) fun t16 =>
K.iteV t16 (
K.ldsK ctx 30 4 t11 h15 fun t17 =>
K.stsK 4 t8 t17 h15 fun h18 =>
K.unmarkK [] h18 fun h19 => K.asPtr t8 fun n20 n21 => K.loads h19 n20 n21 4 fun t22 => .ok (.tup [(.int .u8 (.ofNat 0)), (.agg t22), t14]) h19) (
K.callFK run 64 [t0, t2, t4] h15 fun t23 h24 =>
K.extK t23 0 fun t25 =>
K.extK t23 1 fun t26 =>
K.allocK (K.zN ctx 135) (K.zT ctx 135) h24 fun t27 h28 =>
K.stsK 3 t27 t25 h28 fun h29 =>
K.neK (K.binV ctx .neq 28 true t26 (.int .i64 (.ofNat 0))) t26 (.int .i64 (.ofNat 0)) fun t30 =>
K.iteV t30 (
K.ldsK ctx 30 4 t11 h29 fun t31 =>
K.stsK 4 t8 t31 h29 fun h32 =>
K.unmarkK [] h32 fun h33 => K.asPtr t8 fun n34 n35 => K.loads h33 n34 n35 4 fun t36 => .ok (.tup [(.int .u8 (.ofNat 0)), (.agg t36), t26]) h33) (
K.fldK 2 t27 fun t37 =>
K.ldK ctx 24 t37 h29 fun t38 =>
K.leK (K.binV ctx .leq 24 false t6 t38) t6 t38 fun t39 =>
K.iteV t39 (
K.ldsK ctx 30 4 t11 h29 fun t40 =>
K.stsK 4 t8 t40 h29 fun h41 =>
K.unmarkK [] h41 fun h42 => K.asPtr t8 fun n43 n44 => K.loads h42 n43 n44 4 fun t45 => .ok (.tup [(.int .u8 (.ofNat 2)), (.agg t45), (.int .i64 (.ofNat 0))]) h42) (
K.fldK 2 t27 fun t46 =>
K.ldK ctx 24 t46 h29 fun t47 =>
K.subK (K.binV ctx .sub 24 false t6 t47) t6 t47 fun t48 =>
K.gtK (K.binV ctx .gtr 24 true t48 (.int .u64 (.ofNat 4))) t48 (.int .u64 (.ofNat 4)) fun t49 =>
K.iteV t49 (
K.ldsK ctx 30 4 t11 h29 fun t50 =>
K.stsK 4 t8 t50 h29 fun h51 =>
K.unmarkK [] h51 fun h52 => K.asPtr t8 fun n53 n54 => K.loads h52 n53 n54 4 fun t55 => .ok (.tup [(.int .u8 (.ofNat 3)), (.agg t55), (.int .i64 (.ofNat 0))]) h52) (
K.oK (K.binV ctx .rem 24 true t6 (.int .u64 (.ofNat 4))) fun t56 =>
K.rK (convA ctx 24 3 t56 h29) fun t57 h58 =>
K.callFK run 65 [t0, t2, t57] h58 fun t59 h60 =>
K.extK t59 0 fun t61 =>
K.extK t59 1 fun t62 =>
K.extK t59 2 fun t63 =>
K.allocK (K.zN ctx 30) (K.zT ctx 30) h60 fun t64 h65 =>
K.stsK 4 t64 t62 h65 fun h66 =>
K.neK (K.binV ctx .neq 28 true t63 (.int .i64 (.ofNat 0))) t63 (.int .i64 (.ofNat 0)) fun t67 =>
K.letK (fun (t68 : AV) (h69 : H) => K.letK (fun (t71 : AV) (h72 : H) => K.letK (fun (t74 : AV) (h75 : H) => K.pickK t67 (.bool true) t74 fun t77 =>
K.iteV t77 (
K.ldsK ctx 30 4 t11 h75 fun t78 =>
K.stsK 4 t8 t78 h75 fun h79 =>
K.unmarkK [] h79 fun h80 => K.asPtr t8 fun n81 n82 => K.loads h80 n81 n82 4 fun t83 => .ok (.tup [(.int .u8 (.ofNat 0)), (.agg t83), t63]) h80) (
K.ldsK ctx 30 4 t64 h75 fun t84 =>
K.stsK 4 t8 t84 h75 fun h85 =>
K.unmarkK [] h85 fun h86 => K.asPtr t8 fun n87 n88 => K.loads h86 n87 n88 4 fun t89 => .ok (.tup [(.int .u8 (.ofNat 1)), (.agg t89), (.int .i64 (.ofNat 0))]) h86)) fun j76 =>
K.guK false t67 (K.neK (K.binV ctx .neq 24 false t68 t71) t68 t71 fun t90 =>
j76 t90 h72) (j76 (.tup []) h72)) fun j73 =>
K.guK false t67 (j73 t6 h69) (j73 (.tup []) h69)) fun j70 =>
K.guK false t67 (j70 t61 h66) (j70 (.tup []) h66))))))
noncomputable def r29 : K.KRun → List AV → H → K.KR := fun run args h => K.uncons args fun t0 l1 => K.unnil l1 (
K.neK (K.binV ctx .neq 43 true t0 .nilPtr) t0 .nilPtr fun t2 =>
K.iteV t2 (
K.nilK t0 fun t3 =>
K.fldK 1 t3 fun t4 =>
K.ldK ctx 99 t4 h fun t5 =>
K.slowK ctx run (K.opAt Go.Proofs.Tryz.f29 1 4) [7] [t5] h fun t6 h7 =>
K.nilK t0 fun t8 =>
K.fldK 2 t8 fun t9 =>
K.stK t9 .nilSlice h7 fun h10 =>
K.unmarkK [] h10 fun h11 => .ok (.tup []) h11) (
K.unmarkK [] h fun h12 => .ok (.tup []) h12))
noncomputable def r30 : K.KRun → List AV → H → K.KR := fun run args h => K.uncons args fun t0 l1 => K.uncons l1 fun t2 l3 => K.uncons l3 fun t4 l5 => K.uncons l5 fun t6 l7 => K.uncons l7 fun t8 l9 => K.unnil l9 (
K.boxK t8 h fun t10 h11 =>
K.callFK run 66 [t0, t2, t4] h11 fun t12 h13 =>
K.extK t12 0 fun t14 =>
K.extK t12 1 fun t15 =>
K.eqK (K.binV ctx .eql 28 true t15 (.int .i64 (.ofNat 2))) t15 (.int .i64 (.ofNat 2)) fun t16 =>
K.iteV t16 (
K.unmarkK [] h13 fun h17 => .ok t15 h17) (
K.letK (fun (l18 : List AV) (m19 : List Nat) (h20 : H) => K.uncons l18 fun t22 l23 => K.uncons l23 fun t24 l25 => K.uncons l25 fun t26 l27 => K.uncons l27 fun t28 l29 => K.uncons l29 fun t30 l31 => K.uncons l31 fun t32 l33 => K.unnil l33 (
K.iteV t32 (
K.unmarkK m19 h20 fun h34 => .ok (.int .i64 (.ofNat 1)) h34) (
K.neK (K.binV ctx .neq 28 true t30 (.int .i64 (.ofNat 0))) t30 (.int .i64 (.ofNat 0)) fun t35 =>
K.iteV t35 (
K.unmarkK m19 h20 fun h36 => .ok t30 h36) (
K.addK (K.binV ctx .add 3 true t28 (.int .i64 (.ofNat 1))) t28 (.int .i64 (.ofNat 1)) fun t37 =>
K.fldK 0 t26 fun t38 =>
K.ldK ctx 28 t38 h20 fun t39 =>
K.rK (convA ctx 28 24 t39 h20) fun t40 h41 =>
K.fldK 3 t26 fun t42 =>
K.ldK ctx 9 t42 h41 fun t43 =>
K.lenTK t43 fun t44 =>
K.rK (convA ctx 3 24 t44 h41) fun t45 h46 =>
K.mulK (K.binV ctx .mul 24 true (.int .u64 (.ofNat 256)) t45) (.int .u64 (.ofNat 256)) t45 fun t47 =>
K.addK (K.binV ctx .add 24 false t40 t47) t40 t47 fun t48 =>
K.addK (K.binV ctx .add 3 true t28 (.int .i64 (.ofNat 2))) t28 (.int .i64 (.ofNat 2)) fun t49 =>
K.fldK 1 t26 fun t50 =>
K.ldK ctx 24 t50 h46 fun t51 =>
K.addK (K.binV ctx .add 3 true t28 (.int .i64 (.ofNat 3))) t28 (.int .i64 (.ofNat 3)) fun t52 =>
K.fldK 2 t26 fun t53 =>
K.ldK ctx 24 t53 h46 fun t54 =>
K.callFK run 68 [t37, t48] h46 fun t55 h56 =>
K.ldK ctx 24 t53 h56 fun t57 =>
K.req (AV.same t54 t57) (
K.ldK ctx 24 t50 h56 fun t58 =>
K.req (AV.same t51 t58) (
K.callFK run 68 [t49, t51] h56 fun t59 h60 =>
K.ldK ctx 24 t53 h60 fun t61 =>
K.req (AV.same t54 t61) (
K.callFK run 68 [t52, t54] h60 fun t62 h63 =>
K.bslK ctx 144 1 3 [(0, t55), (1, t59), (2, t62)] h63 fun t64 h65 =>
K.letK (fun (l66 : List AV) (m67 : List Nat) (h68 : H) => K.uncons l66 fun t70 l71 => K.uncons l71 fun t72 l73 => K.uncons l73 fun t74 l75 => K.uncons l75 fun t76 l77 => K.unnil l77 (
K.callFK run 68 [t74, t72] h68 fun t78 h79 =>
K.bslK ctx 144 1 1 [(0, t78)] h79 fun t80 h81 =>
K.appK ctx 144 1 t76 t80 h81 fun t82 h83 =>
K.callFK run 70 [t70, t82] h83 fun t84 h85 =>
K.unmarkK m67 h85 fun h86 => .ok t84 h86)) fun j69 =>
K.fldK 3 t26 fun t87 =>
K.ldK ctx 9 t87 h65 fun t88 =>
K.callFK run 69 [t88] h65 fun t89 h90 =>
K.lenVK t89 fun t91 =>
K.loopV (nat_lit 1000000) (fun s95 l92 m93 h94 => K.uncons l92 fun t96 l97 => K.uncons l97 fun t98 l99 => K.uncons l99 fun t100 l101 => K.uncons l101 fun t102 l103 => K.uncons l103 fun t104 l105 => K.uncons l105 fun t106 l107 => K.uncons l107 fun t108 l109 => K.unnil l109 (
K.ltK (K.binV ctx .lss 3 false t108 t106) t108 t106 fun t110 =>
K.iteV t110 (
K.idxSK 1 t104 t108 fun t111 =>
K.ldK ctx 24 t111 h94 fun t112 =>
K.addK (K.binV ctx .add 3 true t100 (.int .i64 (.ofNat 4))) t100 (.int .i64 (.ofNat 4)) fun t113 =>
K.addK (K.binV ctx .add 3 false t113 t108) t113 t108 fun t114 =>
K.callFK run 68 [t114, t112] h94 fun t115 h116 =>
K.bslK ctx 144 1 1 [(0, t115)] h116 fun t117 h118 =>
K.appK ctx 144 1 t102 t117 h118 fun t119 h120 =>
K.addK (K.binV ctx .add 3 true t108 (.int .i64 (.ofNat 1))) t108 (.int .i64 (.ofNat 1)) fun t121 =>
s95 [t96, t98, t100, t119, t104, t106, t121] m93 h120) (
j69 [t96, t98, t100, t102] m93 h94))) [t22, t24, t28, t64, t89, t91, (.int .i64 (.ofNat 0))] m19 h90))))))) fun j21 =>
K.ltK (K.binV ctx .lss 24 true t6 (.int .u64 (.ofNat 1))) t6 (.int .u64 (.ofNat 1)) fun t122 =>
K.iteV t122 (
j21 [t0, t6, t10, t14, t15, t122] [] h13) (
K.gtK (K.binV ctx .gtr 24 true t6 (.int .u64 (.ofNat 1099511627776))) t6 (.int .u64 (.ofNat 1099511627776)) fun t123 =>
K.iteV t123 (
j21 [t0, t6, t10, t14, t15, t123] [] h13) (
K.ldsK ctx 30 4 t10 h13 fun t124 =>
K.callFK run 67 [t124] h13 fun t125 h126 =>
K.notK t125 fun t127 =>
j21 [t0, t6, t10, t14, t15, t127] [] h126))))
noncomputable def r31 : K.KRun → List AV → H → K.KR := fun run args h => K.uncons args fun t0 l1 => K.unnil l1 (
K.eqK (K.binV ctx .eql 43 true t0 .nilPtr) t0 .nilPtr fun t2 =>
K.iteV t2 (
K.unmarkK [] h fun h3 => .ok .nilSlice h3) (
K.letK (fun (l4 : List AV) (m5 : List Nat) (h6 : H) => K.uncons l4 fun t8 l9 => K.unnil l9 (
K.unmarkK m5 h6 fun h10 => .ok t8 h10)) fun j7 =>
K.nilK t0 fun t11 =>
K.fldK 2 t11 fun t12 =>
K.ldK ctx 67 t12 h fun t13 =>
K.lenVK t13 fun t14 =>
K.loopV (nat_lit 1000000) (fun s18 l15 m16 h17 => K.uncons l15 fun t19 l20 => K.uncons l20 fun t21 l22 => K.uncons l22 fun t23 l24 => K.uncons l24 fun t25 l26 => K.uncons l26 fun t27 l28 => K.unnil l28 (
K.ltK (K.binV ctx .lss 3 false t27 t25) t27 t25 fun t29 =>
K.iteV t29 (
K.idxSK 1 t23 t27 fun t30 =>
K.ldK ctx 3 t30 h17 fun t31 =>
K.nilK t19 fun t32 =>
K.fldK 1 t32 fun t33 =>
K.ldK ctx 99 t33 h17 fun t34 =>
K.slowK ctx run (K.opAt Go.Proofs.Tryz.f31 6 7) [21, 22] [t34, t31] h17 fun t35 h36 =>
K.bldSK ctx 105 [(0, t31), (1, t35)] fun t37 =>
K.bslK ctx 105 2 1 [(0, t37)] h36 fun t38 h39 =>
K.appK ctx 105 2 t21 t38 h39 fun t40 h41 =>
K.addK (K.binV ctx .add 3 true t27 (.int .i64 (.ofNat 1))) t27 (.int .i64 (.ofNat 1)) fun t42 =>
s18 [t19, t40, t23, t25, t42] m16 h41) (
j7 [t21] m16 h17))) [t0, .nilSlice, t13, t14, (.int .i64 (.ofNat 0))] [] h))
noncomputable def r32 : K.KRun → List AV → H → K.KR := fun run args h => K.uncons args fun t0 l1 => K.uncons l1 fun t2 l3 => K.uncons l3 fun t4 l5 => K.unnil l5 (
K.callFK run 63 [t0, t4, (.int .u64 (.ofNat 1))] h fun t6 h7 =>
K.neK (K.binV ctx .neq 28 true t6 (.int .i64 (.ofNat 0))) t6 (.int .i64 (.ofNat 0)) fun t8 =>
K.iteV t8 (
K.unmarkK [] h7 fun h9 => .ok (.tup [(.int .u8 (.ofNat 0)), t6]) h9) (
K.callFK run 71 [t0, t2] h7 fun t10 h11 =>
K.extK t10 0 fun t12 =>
K.extK t10 1 fun t13 =>
K.allocK (K.zN ctx 135) (K.zT ctx 135) h11 fun t14 h15 =>
K.stsK 3 t14 t12 h15 fun h16 =>
K.neK (K.binV ctx .neq 28 true t13 (.int .i64 (.ofNat 0))) t13 (.int .i64 (.ofNat 0)) fun t17 =>
K.iteV t17 (
K.unmarkK [] h16 fun h18 => .ok (.tup [(.int .u8 (.ofNat 0)), t13]) h18) (
K.fldK 0 t14 fun t19 =>
K.ldK ctx 4 t19 h16 fun t20 =>
K.letK (fun (t21 : AV) (h22 : H) => K.letK (fun (t24 : AV) (h25 : H) => K.letK (fun (t27 : AV) (h28 : H) => K.letK (fun (t30 : AV) (h31 : H) => K.pickK t20 t30 (.bool false) fun t33 =>
K.iteV t33 (
K.unmarkK [] h31 fun h34 => .ok (.tup [(.int .u8 (.ofNat 1)), (.int .i64 (.ofNat 0))]) h34) (
K.fldK 1 t14 fun t35 =>
K.ldK ctx 24 t35 h31 fun t36 =>
K.leK (K.binV ctx .leq 24 false t4 t36) t4 t36 fun t37 =>
K.iteV t37 (
K.unmarkK [] h31 fun h38 => .ok (.tup [(.int .u8 (.ofNat 2)), (.int .i64 (.ofNat 0))]) h38) (
K.letK (fun (l39 : List AV) (m40 : List Nat) (h41 : H) => K.uncons l39 fun t43 l44 => K.uncons l44 fun t45 l46 => K.uncons l46 fun t47 l48 => K.uncons l48 fun t49 l50 => K.unnil l50 (
K.iteV t49 (
K.unmarkK m40 h41 fun h51 => .ok (.tup [(.int .u8 (.ofNat 3)), (.int .i64 (.ofNat 0))]) h51) (
K.bldSK ctx 135 [(0, (.bool true)), (1, t47)] fun t52 =>
K.callFK run 72 [t43, t45, t52] h41 fun t53 h54 =>
K.letK (fun (l55 : List AV) (m56 : List Nat) (h57 : H) => K.uncons l55 fun t59 l60 => K.unnil l60 (
K.unmarkK m56 h57 fun h61 => .ok (.tup [(.int .u8 (.ofNat 0)), t59]) h61)) fun j58 =>
K.eqK (K.binV ctx .eql 28 true t53 (.int .i64 (.ofNat 0))) t53 (.int .i64 (.ofNat 0)) fun t62 =>
K.iteV t62 (
K.callFK run 73 [t43, t45] h54 fun t63 h64 =>
j58 [t63] m40 h64) (
j58 [t53] m40 h54)))) fun j42 =>
K.fldK 0 t14 fun t65 =>
K.ldK ctx 4 t65 h31 fun t66 =>
K.iteV t66 (
j42 [t0, t2, t4, t66] [] h31) (
K.fldK 1 t14 fun t67 =>
K.ldK ctx 24 t67 h31 fun t68 =>
K.subK (K.binV ctx .sub 24 false t4 t68) t4 t68 fun t69 =>
K.gtK (K.binV ctx .gtr 24 true t69 (.int .u64 (.ofNat 1))) t69 (.int .u64 (.ofNat 1)) fun t70 =>
j42 [t0, t2, t4, t70] [] h31)))) fun j32 =>
K.guK true t20 (K.eqK (K.binV ctx .eql 24 false t21 t27) t21 t27 fun t71 =>
j32 t71 h28) (j32 (.tup []) h28)) fun j29 =>
K.guK true t20 (K.ldK ctx 24 t24 h25 fun t72 =>
j29 t72 h25) (j29 (.tup []) h25)) fun j26 =>
K.guK true t20 (K.fldK 1 t14 fun t73 =>
j26 t73 h22) (j26 (.tup []) h22)) fun j23 =>
K.guK true t20 (j23 t4 h16) (j23 (.tup []) h16))))
noncomputable def r33 : K.KRun → List AV → H → K.KR := fun run args h => K.uncons args fun t0 l1 => K.uncons l1 fun t2 l3 => K.uncons l3 fun t4 l5 => K.unnil l5 (
K.neK (K.binV ctx .neq 28 true t4 (.int .i64 (.ofNat 0))) t4 (.int .i64 (.ofNat 0)) fun t6 =>
K.iteV t6 (
K.unmarkK [] h fun h7 => .ok (.tup [(.int .u8 (.ofNat 0)), .nilSlice, t4]) h7) (
K.callFK run 31 [t0] h fun t8 h9 =>
K.unmarkK [] h9 fun h10 => .ok (.tup [t2, t8, (.int .i64 (.ofNat 0))]) h10))
noncomputable def r37 : K.KRun → List AV → H → K.KR := fun run args h => K.uncons args fun t0 l1 => K.uncons l1 fun t2 l3 => K.unnil l3 (
K.allocK (K.zN ctx 23) (K.zT ctx 23) h fun t4 h5 =>
K.rK (convA ctx 5 3 t0 h5) fun t6 h7 =>
K.oK (K.binV ctx .rem 3 true t6 (.int .i64 (.ofNat 20))) fun t8 =>
K.addK (K.binV ctx .add 3 true (.int .i64 (.ofNat 2)) t8) (.int .i64 (.ofNat 2)) t8 fun t9 =>
K.rK (convA ctx 5 3 t2 h7) fun t10 h11 =>
K.oK (K.binV ctx .rem 3 true t10 (.int .i64 (.ofNat 60))) fun t12 =>
K.addK (K.binV ctx .add 3 true (.int .i64 (.ofNat 2)) t12) (.int .i64 (.ofNat 2)) t12 fun t13 =>
K.bldSK ctx 23 [(0, (.int .i64 (.ofNat 1))), (1, t9), (2, t13)] fun t14 =>
K.stsK 3 t4 t14 h11 fun h15 =>
K.unmarkK [] h15 fun h16 => K.asPtr t4 fun n17 n18 => K.loads h16 n17 n18 3 fun t19 => .ok (.agg t19) h16)
noncomputable def r38 : K.KRun → List AV → H → K.KR := fun run args h => K.uncons args fun t0 l1 => K.unnil l1 (
K.boxK t0 h fun t2 h3 =>
K.fldK 0 t2 fun t4 =>
K.ldK ctx 3 t4 h3 fun t5 =>
K.geK (K.binV ctx .geq 3 true t5 (.int .i64 (.ofNat 1))) t5 (.int .i64 (.ofNat 1)) fun t6 =>
K.letK (fun (t7 : AV) (h8 : H) => K.letK (fun (t10 : AV) (h11 : H) => K.letK (fun (t13 : AV) (h14 : H) => K.pickK t6 t13 (.bool false) fun t16 =>
K.letK (fun (t17 : AV) (h18 : H) => K.letK (fun (t20 : AV) (h21 : H) => K.letK (fun (t23 : AV) (h24 : H) => K.pickK t16 t23 (.bool false) fun t26 =>
K.letK (fun (t27 : AV) (h28 : H) => K.letK (fun (t30 : AV) (h31 : H) => K.letK (fun (t33 : AV) (h34 : H) => K.pickK t26 t33 (.bool false) fun t36 =>
K.letK (fun (t37 : AV) (h38 : H) => K.letK (fun (t40 : AV) (h41 : H) => K.letK (fun (t43 : AV) (h44 : H) => K.pickK t36 t43 (.bool false) fun t46 =>
K.letK (fun (t47 : AV) (h48 : H) => K.letK (fun (t50 : AV) (h51 : H) => K.letK (fun (t53 : AV) (h54 : H) => K.pickK t46 t53 (.bool false) fun t56 =>
K.unmarkK [] h54 fun h57 => .ok t56 h57) fun j55 =>
K.guK true t46 (K.leK (K.binV ctx .leq 3 true t50 (.int .i64 (.ofNat 512))) t50 (.int .i64 (.ofNat 512)) fun t58 =>
j55 t58 h51) (j55 (.tup []) h51)) fun j52 =>
K.guK true t46 (K.ldK ctx 3 t47 h48 fun t59 =>
j52 t59 h48) (j52 (.tup []) h48)) fun j49 =>
K.guK true t46 (K.fldK 2 t2 fun t60 =>
j49 t60 h44) (j49 (.tup []) h44)) fun j45 =>
K.guK true t36 (K.geK (K.binV ctx .geq 3 true t40 (.int .i64 (.ofNat 2))) t40 (.int .i64 (.ofNat 2)) fun t61 =>
j45 t61 h41) (j45 (.tup []) h41)) fun j42 =>
K.guK true t36 (K.ldK ctx 3 t37 h38 fun t62 =>
j42 t62 h38) (j42 (.tup []) h38)) fun j39 =>
K.guK true t36 (K.fldK 2 t2 fun t63 =>
j39 t63 h34) (j39 (.tup []) h34)) fun j35 =>
K.guK true t26 (K.leK (K.binV ctx .leq 3 true t30 (.int .i64 (.ofNat 64))) t30 (.int .i64 (.ofNat 64)) fun t64 =>
j35 t64 h31) (j35 (.tup []) h31)) fun j32 =>
K.guK true t26 (K.ldK ctx 3 t27 h28 fun t65 =>
j32 t65 h28) (j32 (.tup []) h28)) fun j29 =>
K.guK true t26 (K.fldK 1 t2 fun t66 =>
j29 t66 h24) (j29 (.tup []) h24)) fun j25 =>
K.guK true t16 (K.geK (K.binV ctx .geq 3 true t20 (.int .i64 (.ofNat 2))) t20 (.int .i64 (.ofNat 2)) fun t67 =>
j25 t67 h21) (j25 (.tup []) h21)) fun j22 =>
K.guK true t16 (K.ldK ctx 3 t17 h18 fun t68 =>
j22 t68 h18) (j22 (.tup []) h18)) fun j19 =>
K.guK true t16 (K.fldK 1 t2 fun t69 =>
j19 t69 h14) (j19 (.tup []) h14)) fun j15 =>
K.guK true t6 (K.leK (K.binV ctx .leq 3 true t10 (.int .i64 (.ofNat 4))) t10 (.int .i64 (.ofNat 4)) fun t70 =>
j15 t70 h11) (j15 (.tup []) h11)) fun j12 =>
K.guK true t6 (K.ldK ctx 3 t7 h8 fun t71 =>
j12 t71 h8) (j12 (.tup []) h8)) fun j9 =>
K.guK true t6 (K.fldK 0 t2 fun t72 =>
j9 t72 h3) (j9 (.tup []) h3))
noncomputable def r39 : K.KRun → List AV → H → K.KR := fun run args h => K.uncons args fun t0 l1 => K.unnil l1 (
K.boxK t0 h fun t2 h3 =>
K.ldsK ctx 41 3 t2 h3 fun t4 =>
K.callFK run 38 [t4] h3 fun t5 h6 =>
K.notK t5 fun t7 =>
K.iteV t7 (
K.unmarkK [] h6 fun h8 => .ok (.int .i64 (.ofNat 0)) h8) (
K.ldsK ctx 41 3 t2 h6 fun t9 =>
K.fldK 1 t2 fun t10 =>
K.ldK ctx 3 t10 h6 fun t11 =>
K.mulK (K.binV ctx .mul 3 true (.int .i64 (.ofNat 16)) t11) (.int .i64 (.ofNat 16)) t11 fun t12 =>
K.fldK 2 t2 fun t13 =>
K.ldK ctx 3 t13 h6 fun t14 =>
K.mulK (K.binV ctx .mul 3 true (.int .i64 (.ofNat 8)) t14) (.int .i64 (.ofNat 8)) t14 fun t15 =>
K.callFK run 77 [t9] h6 fun t16 h17 =>
K.ldK ctx 3 t13 h17 fun t18 =>
K.req (AV.same t14 t18) (
K.ldK ctx 3 t10 h17 fun t19 =>
K.req (AV.same t11 t19) (
K.addK (K.binV ctx .add 3 true t16 (.int .i64 (.ofNat 16))) t16 (.int .i64 (.ofNat 16)) fun t20 =>
K.addK (K.binV ctx .add 3 false t20 t12) t20 t12 fun t21 =>
K.addK (K.binV ctx .add 3 false t21 t15) t21 t15 fun t22 =>
K.unmarkK [] h17 fun h23 => .ok t22 h23))))
noncomputable def r40 : K.KRun → List AV → H → K.KR := fun run args h => K.uncons args fun t0 l1 => K.unnil l1 (
K.boxK t0 h fun t2 h3 =>
K.ldsK ctx 41 3 t2 h3 fun t4 =>
K.callFK run 38 [t4] h3 fun t5 h6 =>
K.notK t5 fun t7 =>
K.iteV t7 (
K.unmarkK [] h6 fun h8 => .ok (.int .i64 (.negSucc 0)) h8) (
K.ldsK ctx 41 3 t2 h6 fun t9 =>
K.callFK run 77 [t9] h6 fun t10 h11 =>
K.unmarkK [] h11 fun h12 => .ok t10 h12))
noncomputable def r41 : K.KRun → List AV → H → K.KR := fun run args h => K.uncons args fun t0 l1 => K.unnil l1 (
K.boxK t0 h fun t2 h3 =>
K.ldsK ctx 41 3 t2 h3 fun t4 =>
K.callFK run 38 [t4] h3 fun t5 h6 =>
K.notK t5 fun t7 =>
K.iteV t7 (
K.unmarkK [] h6 fun h8 => .ok (.int .i64 (.negSucc 0)) h8) (
K.ldsK ctx 41 3 t2 h6 fun t9 =>
K.callFK run 77 [t9] h6 fun t10 h11 =>
K.addK (K.binV ctx .add 3 true t10 (.int .i64 (.ofNat 8))) t10 (.int .i64 (.ofNat 8)) fun t12 =>
K.unmarkK [] h11 fun h13 => .ok t12 h13))
noncomputable def r42 : K.KRun → List AV → H → K.KR := fun run args h => K.uncons args fun t0 l1 => K.uncons l1 fun t2 l3 => K.unnil l3 (
K.boxK t0 h fun t4 h5 =>
K.ldsK ctx 41 3 t4 h5 fun t6 =>
K.callFK run 38 [t6] h5 fun t7 h8 =>
K.notK t7 fun t9 =>
K.letK (fun (t10 : AV) (h11 : H) => K.letK (fun (t13 : AV) (h14 : H) => K.pickK t9 (.bool true) t13 fun t16 =>
K.letK (fun (t17 : AV) (h18 : H) => K.letK (fun (t20 : AV) (h21 : H) => K.letK (fun (t23 : AV) (h24 : H) => K.letK (fun (t26 : AV) (h27 : H) => K.pickK t16 (.bool true) t26 fun t29 =>
K.iteV t29 (
K.unmarkK [] h27 fun h30 => .ok (.int .i64 (.negSucc 0)) h30) (
K.ldsK ctx 41 3 t4 h27 fun t31 =>
K.callFK run 77 [t31] h27 fun t32 h33 =>
K.addK (K.binV ctx .add 3 true t32 (.int .i64 (.ofNat 16))) t32 (.int .i64 (.ofNat 16)) fun t34 =>
K.mulK (K.binV ctx .mul 3 true (.int .i64 (.ofNat 16)) t2) (.int .i64 (.ofNat 16)) t2 fun t35 =>
K.addK (K.binV ctx .add 3 false t34 t35) t34 t35 fun t36 =>
K.unmarkK [] h33 fun h37 => .ok t36 h37)) fun j28 =>
K.guK false t16 (K.geK (K.binV ctx .geq 3 false t17 t23) t17 t23 fun t38 =>
j28 t38 h24) (j28 (.tup []) h24)) fun j25 =>
K.guK false t16 (K.ldK ctx 3 t20 h21 fun t39 =>
j25 t39 h21) (j25 (.tup []) h21)) fun j22 =>
K.guK false t16 (K.fldK 1 t4 fun t40 =>
j22 t40 h18) (j22 (.tup []) h18)) fun j19 =>
K.guK false t16 (j19 t2 h14) (j19 (.tup []) h14)) fun j15 =>
K.guK false t9 (K.ltK (K.binV ctx .lss 3 true t10 (.int .i64 (.ofNat 0))) t10 (.int .i64 (.ofNat 0)) fun t41 =>
j15 t41 h11) (j15 (.tup []) h11)) fun j12 =>
K.guK false t9 (j12 t2 h8) (j12 (.tup []) h8))
noncomputable def r43 : K.KRun → List AV → H → K.KR := fun run args h => K.uncons args fun t0 l1 => K.uncons l1 fun t2 l3 => K.unnil l3 (
K.boxK t0 h fun t4 h5 =>
K.boxK t2 h5 fun t6 h7 =>
K.fldK 0 t4 fun t8 =>
K.ldK ctx 43 t8 h7 fun t9 =>
K.eqK (K.binV ctx .eql 43 true t9 .nilPtr) t9 .nilPtr fun t10 =>
K.iteV t10 (
K.unmarkK [] h7 fun h11 => .ok (.int .i64 (.ofNat 2)) h11) (
K.letK (fun (l12 : List AV) (m13 : List Nat) (h14 : H) => K.uncons l12 fun t16 l17 => K.uncons l17 fun t18 l19 => K.unnil l19 (
K.iteV t18 (
K.unmarkK m13 h14 fun h20 => .ok (.int .i64 (.ofNat 1)) h20) (
K.fldK 0 t16 fun t21 =>
K.ldK ctx 43 t21 h14 fun t22 =>
K.fldK 1 t16 fun t23 =>
K.ldsK ctx 23 3 t23 h14 fun t24 =>
K.callFK run 79 [t22] h14 fun t25 h26 =>
K.ldsK ctx 23 3 t23 h26 fun t27 =>
K.req (AV.same t24 t27) (
K.callFK run 54 [t24] h26 fun t28 h29 =>
K.ltK (K.binV ctx .lss 3 false t25 t28) t25 t28 fun t30 =>
K.iteV t30 (
K.unmarkK m13 h29 fun h31 => .ok (.int .i64 (.ofNat 8)) h31) (
K.unmarkK m13 h29 fun h32 => .ok (.int .i64 (.ofNat 0)) h32))))) fun j15 =>
K.ldsK ctx 26 8 t6 h7 fun t33 =>
K.callFK run 27 [t33] h7 fun t34 h35 =>
K.notK t34 fun t36 =>
K.iteV t36 (
j15 [t4, t36] [] h35) (
K.fldK 1 t4 fun t37 =>
K.ldsK ctx 23 3 t37 h35 fun t38 =>
K.callFK run 53 [t38] h35 fun t39 h40 =>
K.notK t39 fun t41 =>
K.iteV t41 (
j15 [t4, t41] [] h40) (
K.fldK 4 t4 fun t42 =>
K.ldK ctx 3 t42 h40 fun t43 =>
K.callFK run 78 [t43] h40 fun t44 h45 =>
K.ltK (K.binV ctx .lss 3 true t44 (.int .i64 (.ofNat 0))) t44 (.int .i64 (.ofNat 0)) fun t46 =>
j15 [t4, t46] [] h45))))
noncomputable def r44 : K.KRun → List AV → H → K.KR := fun run args h => K.uncons args fun t0 l1 => K.unnil l1 (
K.boxK t0 h fun t2 h3 =>
K.slowK ctx run (K.opAt Go.Proofs.Tryz.f44 1 0) [] [] h3 fun t4 h5 =>
K.ldsK ctx 91 5 t2 h5 fun t6 =>
K.slowK ctx run (K.opAt Go.Proofs.Tryz.f44 1 3) [3, 5] [t4, (.func (.func 80) [t6] [])] h5 fun t7 h8 =>
K.ldsK ctx 91 5 t2 h8 fun t9 =>
K.slowK ctx run (K.opAt Go.Proofs.Tryz.f44 1 6) [3, 7] [t4, (.func (.func 81) [t9] [])] h8 fun t10 h11 =>
K.ldsK ctx 91 5 t2 h11 fun t12 =>
K.slowK ctx run (K.opAt Go.Proofs.Tryz.f44 1 9) [3, 9] [t4, (.func (.func 82) [t12] [])] h11 fun t13 h14 =>
K.ldsK ctx 91 5 t2 h14 fun t15 =>
K.slowK ctx run (K.opAt Go.Proofs.Tryz.f44 1 12) [3, 11] [t4, (.func (.func 83) [t15] [])] h14 fun t16 h17 =>
K.ldsK ctx 91 5 t2 h17 fun t18 =>
K.slowK ctx run (K.opAt Go.Proofs.Tryz.f44 1 15) [3, 13] [t4, (.func (.func 84) [t18] [])] h17 fun t19 h20 =>
K.ldsK ctx 91 5 t2 h20 fun t21 =>
K.slowK ctx run (K.opAt Go.Proofs.Tryz.f44 1 18) [3, 15] [t4, (.func (.func 85) [t21] [])] h20 fun t22 h23 =>
K.ldsK ctx 91 5 t2 h23 fun t24 =>
K.slowK ctx run (K.opAt Go.Proofs.Tryz.f44 1 21) [3, 17] [t4, (.func (.func 86) [t24] [])] h23 fun t25 h26 =>
K.ldsK ctx 91 5 t2 h26 fun t27 =>
K.slowK ctx run (K.opAt Go.Proofs.Tryz.f44 1 24) [3, 19] [t4, (.func (.func 87) [t27] [])] h26 fun t28 h29 =>
K.ldsK ctx 91 5 t2 h29 fun t30 =>
K.slowK ctx run (K.opAt Go.Proofs.Tryz.f44 1 27) [3, 21] [t4, (.func (.func 88) [t30] [])] h29 fun t31 h32 =>
K.ldsK ctx 91 5 t2 h32 fun t33 =>
K.slowK ctx run (K.opAt Go.Proofs.Tryz.f44 1 30) [3, 23] [t4, (.func (.func 89) [t33] [])] h32 fun t34 h35 =>
K.ldsK ctx 91 5 t2 h35 fun t36 =>
K.slowK ctx run (K.opAt Go.Proofs.Tryz.f44 1 33) [3, 25] [t4, (.func (.func 90) [t36] [])] h35 fun t37 h38 =>
K.ldsK ctx 91 5 t2 h38 fun t39 =>
K.slowK ctx run (K.opAt Go.Proofs.Tryz.f44 1 36) [3, 27] [t4, (.func (.func 91) [t39] [])] h38 fun t40 h41 =>
K.ldsK ctx 91 5 t2 h41 fun t42 =>
K.slowK ctx run (K.opAt Go.Proofs.Tryz.f44 1 39) [3, 29] [t4, (.func (.func 92) [t42] [])] h41 fun t43 h44 =>
K.unmarkK [] h44 fun h45 => .ok t4 h45)
noncomputable def r45 : K.KRun → List AV → H → K.KR := fun run args h => K.uncons args fun t0 l1 => K.unnil l1 (
K.eqK (K.binV ctx .eql 39 true t0 .nilSlice) t0 .nilSlice fun t2 =>
K.iteV t2 (
K.unmarkK [] h fun h3 => .ok .nilSlice h3) (
K.bslK ctx 24 1 0 [] h fun t4 h5 =>
K.appK ctx 24 1 t4 t0 h5 fun t6 h7 =>
K.unmarkK [] h7 fun h8 => .ok t6 h8))
noncomputable def r47 : K.KRun → List AV → H → K.KR := fun run args h => K.uncons args fun t0 l1 => K.uncons l1 fun t2 l3 => K.unnil l3 (
K.lenVK t0 fun t4 =>
K.lenVK t2 fun t5 =>
K.neK (K.binV ctx .neq 3 false t4 t5) t4 t5 fun t6 =>
K.iteV t6 (
K.unmarkK [] h fun h7 => .ok (.bool false) h7) (
K.letK (fun (l8 : List AV) (m9 : List Nat) (h10 : H) => K.unnil l8 (
K.unmarkK m9 h10 fun h12 => .ok (.bool true) h12)) fun j11 =>
K.loopV (nat_lit 1000000) (fun s16 l13 m14 h15 => K.uncons l13 fun t17 l18 => K.uncons l18 fun t19 l20 => K.uncons l20 fun t21 l22 => K.unnil l22 (
K.lenVK t17 fun t23 =>
K.ltK (K.binV ctx .lss 3 false t21 t23) t21 t23 fun t24 =>
K.iteV t24 (
K.idxSK 2 t17 t21 fun t25 =>
K.ldsK ctx 105 2 t25 h15 fun t26 =>
K.idxSK 2 t19 t21 fun t27 =>
K.ldsK ctx 105 2 t27 h15 fun t28 =>
K.neK (K.binV ctx .neq 105 false t26 t28) t26 t28 fun t29 =>
K.iteV t29 (
K.unmarkK m14 h15 fun h30 => .ok (.bool false) h30) (
K.addK (K.binV ctx .add 3 true t21 (.int .i64 (.ofNat 1))) t21 (.int .i64 (.ofNat 1)) fun t31 =>
s16 [t17, t19, t31] m14 h15)) (
j11 [] m14 h15))) [t0, t2, (.int .i64 (.ofNat 0))] [] h))
noncomputable def r53 : K.KRun → List AV → H → K.KR := fun run args h => K.uncons args fun t0 l1 => K.unnil l1 (
K.boxK t0 h fun t2 h3 =>
K.fldK 0 t2 fun t4 =>
K.ldK ctx 3 t4 h3 fun t5 =>
K.callFK run 101 [t5, (.int .i64 (.ofNat 1)), (.int .i64 (.ofNat 4))] h3 fun t6 h7 =>
K.letK (fun (t8 : AV) (h9 : H) => K.letK (fun (t11 : AV) (h12 : H) => K.letK (fun (t14 : AV) (h15 : H) => K.pickK t6 t14 (.bool false) fun t17 =>
K.letK (fun (t18 : AV) (h19 : H) => K.letK (fun (t21 : AV) (h22 : H) => K.letK (fun (t24 : AV) (h25 : H) => K.pickK t17 t24 (.bool false) fun t27 =>
K.unmarkK [] h25 fun h28 => .ok t27 h28) fun j26 =>
K.guK true t17 (K.callFK run 101 [t21, (.int .i64 (.ofNat 2)), (.int .i64 (.ofNat 512))] h22 fun t29 h30 =>
j26 t29 h30) (j26 (.tup []) h22)) fun j23 =>
K.guK true t17 (K.ldK ctx 3 t18 h19 fun t31 =>
j23 t31 h19) (j23 (.tup []) h19)) fun j20 =>
K.guK true t17 (K.fldK 2 t2 fun t32 =>
j20 t32 h15) (j20 (.tup []) h15)) fun j16 =>
K.guK true t6 (K.callFK run 101 [t11, (.int .i64 (.ofNat 2)), (.int .i64 (.ofNat 64))] h12 fun t33 h34 =>
j16 t33 h34) (j16 (.tup []) h12)) fun j13 =>
K.guK true t6 (K.ldK ctx 3 t8 h9 fun t35 =>
j13 t35 h9) (j13 (.tup []) h9)) fun j10 =>
K.guK true t6 (K.fldK 1 t2 fun t36 =>
j10 t36 h7) (j10 (.tup []) h7))
noncomputable def r54 : K.KRun → List AV → H → K.KR := fun run args h => K.uncons args fun t0 l1 => K.unnil l1 (
K.boxK t0 h fun t2 h3 =>
K.ldsK ctx 23 3 t2 h3 fun t4 =>
K.callFK run 53 [t4] h3 fun t5 h6 =>
K.notK t5 fun t7 =>
K.iteV t7 (
K.unmarkK [] h6 fun h8 => .ok (.int .i64 (.ofNat 0)) h8) (
K.letK (fun (l9 : List AV) (m10 : List Nat) (h11 : H) => K.uncons l9 fun t13 l14 => K.unnil l14 (
K.unmarkK m10 h11 fun h15 => .ok t13 h15)) fun j12 =>
K.ldsK ctx 23 3 t2 h6 fun t16 =>
K.callFK run 102 [t16] h6 fun t17 h18 =>
K.loopV (nat_lit 1000000) (fun s22 l19 m20 h21 => K.uncons l19 fun t23 l24 => K.uncons l24 fun t25 l26 => K.uncons l26 fun t27 l28 => K.unnil l28 (
K.ltK (K.binV ctx .lss 3 true t27 (.int .i64 (.ofNat 7))) t27 (.int .i64 (.ofNat 7)) fun t29 =>
K.iteV t29 (
K.idxK ctx 179 3 7 t25 t27 fun t30 =>
K.allocK (K.zN ctx 179) (K.zT ctx 179) h21 fun t31 h32 =>
K.stsK 3 t31 t30 h32 fun h33 =>
K.fldK 1 t31 fun t34 =>
K.ldK ctx 3 t34 h33 fun t35 =>
K.fldK 2 t31 fun t36 =>
K.ldK ctx 3 t36 h33 fun t37 =>
K.mulK (K.binV ctx .mul 3 false t35 t37) t35 t37 fun t38 =>
K.addK (K.binV ctx .add 3 false t23 t38) t23 t38 fun t39 =>
K.addK (K.binV ctx .add 3 true t27 (.int .i64 (.ofNat 1))) t27 (.int .i64 (.ofNat 1)) fun t40 =>
s22 [t39, t25, t40] m20 h33) (
j12 [t23] m20 h21))) [(.int .i64 (.ofNat 0)), t17, (.int .i64 (.ofNat 0))] [] h18))
end YtlmgehjkbgaknaaGreatDoorPlM
