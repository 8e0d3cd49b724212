/- PRINTED BY Gen2.lean (own): functions as plain texts, part 0. -/
import Derived.Test.YtbigljebnajniaaGreatDoorCnCtx
namespace YtbigljebnajniaaGreatDoorCnM
open Go Am
set_option maxRecDepth 100000
noncomputable def r5 : K.KRun → List AV → H → K.KR := fun run args h => K.uncons args fun t0 l1 => K.unnil l1 (
K.allocK (K.zN ctx 25) (K.zT ctx 25) h fun t2 h3 =>
K.lenVK t0 fun t4 =>
K.ltK (K.binV ctx .lss 3 true t4 (.int .i64 (.ofNat 8))) t4 (.int .i64 (.ofNat 8)) fun t5 =>
K.letK (fun (t6 : AV) (h7 : H) => K.letK (fun (t9 : AV) (h10 : H) => K.letK (fun (t12 : AV) (h13 : H) => K.letK (fun (t15 : AV) (h16 : H) => K.pickK t5 (.bool true) t15 fun t18 =>
K.letK (fun (t19 : AV) (h20 : H) => K.letK (fun (t22 : AV) (h23 : H) => K.letK (fun (t25 : AV) (h26 : H) => K.letK (fun (t28 : AV) (h29 : H) => K.letK (fun (t31 : AV) (h32 : H) => K.letK (fun (t34 : AV) (h35 : H) => K.letK (fun (t37 : AV) (h38 : H) => K.letK (fun (t40 : AV) (h41 : H) => K.letK (fun (t43 : AV) (h44 : H) => K.letK (fun (t46 : AV) (h47 : H) => K.letK (fun (t49 : AV) (h50 : H) => K.pickK t18 (.bool true) t49 fun t52 =>
K.iteV t52 (
K.bldSK ctx 25 [] fun t53 =>
K.stsK 3 t2 t53 h50 fun h54 =>
K.unmarkK [] h54 fun h55 => K.asPtr t2 fun n56 n57 => K.loads h55 n56 n57 3 fun t58 => .ok (.tup [(.agg t58), (.bool false)]) h55) (
K.idxSK 1 t0 (.int .i64 (.ofNat 1)) fun t59 =>
K.ldK ctx 37 t59 h50 fun t60 =>
K.rK (convA ctx 37 3 t60 h50) fun t61 h62 =>
K.idxSK 1 t0 (.int .i64 (.ofNat 2)) fun t63 =>
K.ldK ctx 37 t63 h62 fun t64 =>
K.rK (convA ctx 37 3 t64 h62) fun t65 h66 =>
K.idxSK 1 t0 (.int .i64 (.ofNat 3)) fun t67 =>
K.ldK ctx 37 t67 h66 fun t68 =>
K.rK (convA ctx 37 3 t68 h66) fun t69 h70 =>
K.bldSK ctx 25 [(0, t61), (1, t65), (2, t69)] fun t71 =>
K.stsK 3 t2 t71 h70 fun h72 =>
K.ldsK ctx 25 3 t2 h72 fun t73 =>
K.callFK run 12 [t73] h72 fun t74 h75 =>
K.notK t74 fun t76 =>
K.letK (fun (t77 : AV) (h78 : H) => K.letK (fun (t80 : AV) (h81 : H) => K.letK (fun (t83 : AV) (h84 : H) => K.letK (fun (t86 : AV) (h87 : H) => K.letK (fun (t89 : AV) (h90 : H) => K.pickK t76 (.bool true) t89 fun t92 =>
K.iteV t92 (
K.bldSK ctx 25 [] fun t93 =>
K.stsK 3 t2 t93 h90 fun h94 =>
K.unmarkK [] h94 fun h95 => K.asPtr t2 fun n96 n97 => K.loads h95 n96 n97 3 fun t98 => .ok (.tup [(.agg t98), (.bool false)]) h95) (
K.ldsK ctx 25 3 t2 h90 fun t99 =>
K.stsK 3 t2 t99 h90 fun h100 =>
K.unmarkK [] h100 fun h101 => K.asPtr t2 fun n102 n103 => K.loads h101 n102 n103 3 fun t104 => .ok (.tup [(.agg t104), (.bool true)]) h101)) fun j91 =>
K.guK false t76 (K.ltK (K.binV ctx .lss 3 false t80 t86) t80 t86 fun t105 =>
j91 t105 h87) (j91 (.tup []) h87)) fun j88 =>
K.guK false t76 (K.callFK run 13 [t83] h84 fun t106 h107 =>
j88 t106 h107) (j88 (.tup []) h84)) fun j85 =>
K.guK false t76 (K.ldsK ctx 25 3 t2 h81 fun t108 =>
j85 t108 h81) (j85 (.tup []) h81)) fun j82 =>
K.guK false t76 (K.lenVK t77 fun t109 =>
j82 t109 h78) (j82 (.tup []) h78)) fun j79 =>
K.guK false t76 (j79 t0 h75) (j79 (.tup []) h75))) fun j51 =>
K.guK false t18 (K.gtK (K.binV ctx .gtr 37 true t46 (.int .u64 (.ofNat 512))) t46 (.int .u64 (.ofNat 512)) fun t110 =>
j51 t110 h47) (j51 (.tup []) h47)) fun j48 =>
K.guK false t18 (K.slowK ctx run (K.opAt Go.Proofs.Tryz.f5 1 19) [16, 19, 22] [t25, t34, t43] h44 fun t111 h112 =>
j48 t111 h112) (j48 (.tup []) h44)) fun j45 =>
K.guK false t18 (K.ldK ctx 37 t40 h41 fun t113 =>
j45 t113 h41) (j45 (.tup []) h41)) fun j42 =>
K.guK false t18 (K.idxSK 1 t37 (.int .i64 (.ofNat 3)) fun t114 =>
j42 t114 h38) (j42 (.tup []) h38)) fun j39 =>
K.guK false t18 (j39 t0 h35) (j39 (.tup []) h35)) fun j36 =>
K.guK false t18 (K.ldK ctx 37 t31 h32 fun t115 =>
j36 t115 h32) (j36 (.tup []) h32)) fun j33 =>
K.guK false t18 (K.idxSK 1 t28 (.int .i64 (.ofNat 2)) fun t116 =>
j33 t116 h29) (j33 (.tup []) h29)) fun j30 =>
K.guK false t18 (j30 t0 h26) (j30 (.tup []) h26)) fun j27 =>
K.guK false t18 (K.ldK ctx 37 t22 h23 fun t117 =>
j27 t117 h23) (j27 (.tup []) h23)) fun j24 =>
K.guK false t18 (K.idxSK 1 t19 (.int .i64 (.ofNat 1)) fun t118 =>
j24 t118 h20) (j24 (.tup []) h20)) fun j21 =>
K.guK false t18 (j21 t0 h16) (j21 (.tup []) h16)) fun j17 =>
K.guK false t5 (K.neK (K.binV ctx .neq 37 true t12 (.int .u64 (.ofNat 32762617960297063))) t12 (.int .u64 (.ofNat 32762617960297063)) fun t119 =>
j17 t119 h13) (j17 (.tup []) h13)) fun j14 =>
K.guK false t5 (K.ldK ctx 37 t9 h10 fun t120 =>
j14 t120 h10) (j14 (.tup []) h10)) fun j11 =>
K.guK false t5 (K.idxSK 1 t6 (.int .i64 (.ofNat 0)) fun t121 =>
j11 t121 h7) (j11 (.tup []) h7)) fun j8 =>
K.guK false t5 (j8 t0 h3) (j8 (.tup []) h3))
noncomputable def r6 : K.KRun → List AV → H → K.KR := fun run args h => K.uncons args fun t0 l1 => K.unnil l1 (
K.allocK (K.zN ctx 29) (K.zT ctx 29) h fun t2 h3 =>
K.callFK run 14 [t0] h3 fun t4 h5 =>
K.extK t4 0 fun t6 =>
K.extK t4 1 fun t7 =>
K.extK t4 2 fun t8 =>
K.allocK (K.zN ctx 29) (K.zT ctx 29) h5 fun t9 h10 =>
K.stsK 3 t9 t7 h10 fun h11 =>
K.ldsK ctx 29 3 t9 h11 fun t12 =>
K.stsK 3 t2 t12 h11 fun h13 =>
K.unmarkK [] h13 fun h14 => K.asPtr t2 fun n15 n16 => K.loads h14 n15 n16 3 fun t17 => .ok (.tup [(.agg t17), t8]) h14)
noncomputable def r7 : K.KRun → List AV → H → K.KR := fun run args h => K.uncons args fun t0 l1 => K.unnil l1 (
K.allocK (K.zN ctx 32) (K.zT ctx 32) h fun t2 h3 =>
K.callFK run 14 [t0] h3 fun t4 h5 =>
K.extK t4 0 fun t6 =>
K.extK t4 1 fun t7 =>
K.extK t4 2 fun t8 =>
K.allocK (K.zN ctx 43) (K.zT ctx 43) h5 fun t9 h10 =>
K.allocK (K.zN ctx 29) (K.zT ctx 29) h10 fun t11 h12 =>
K.stK t9 t6 h12 fun h13 =>
K.stsK 3 t11 t7 h13 fun h14 =>
K.notK t8 fun t15 =>
K.iteV t15 (
K.stK t2 .nilSlice h14 fun h16 =>
K.unmarkK [] h16 fun h17 => K.asPtr t2 fun n18 n19 => K.load1 h17 n18 n19 fun t20 => .ok t20 h17) (
K.ldK ctx 43 t9 h14 fun t21 =>
K.callFK run 15 [t21, (.func (.func 16) [] [t9, t2])] h14 fun t22 h23 =>
K.ldK ctx 32 t2 h23 fun t24 =>
K.stK t2 t24 h23 fun h25 =>
K.unmarkK [] h25 fun h26 => K.asPtr t2 fun n27 n28 => K.load1 h26 n27 n28 fun t29 => .ok t29 h26))
noncomputable def r8 : K.KRun → List AV → H → K.KR := fun run args h => K.uncons args fun t0 l1 => K.unnil l1 (
K.boxK t0 h fun t2 h3 =>
K.ldsK ctx 36 3 t2 h3 fun t4 =>
K.callFK run 17 [t4] h3 fun t5 h6 =>
K.notK t5 fun t7 =>
K.iteV t7 (
K.unmarkK [] h6 fun h8 => .ok .nilSlice h8) (
K.ldsK ctx 36 3 t2 h6 fun t9 =>
K.callFK run 18 [t9] h6 fun t10 h11 =>
K.mslK ctx 37 1 t10 t10 h11 fun t12 h13 =>
K.idxSK 1 t12 (.int .i64 (.ofNat 0)) fun t14 =>
K.stK t14 (.int .u64 (.ofNat 32762617960297063)) h13 fun h15 =>
K.fldK 0 t2 fun t16 =>
K.ldK ctx 3 t16 h15 fun t17 =>
K.rK (convA ctx 3 37 t17 h15) fun t18 h19 =>
K.idxSK 1 t12 (.int .i64 (.ofNat 1)) fun t20 =>
K.stK t20 t18 h19 fun h21 =>
K.fldK 1 t2 fun t22 =>
K.ldK ctx 3 t22 h21 fun t23 =>
K.rK (convA ctx 3 37 t23 h21) fun t24 h25 =>
K.idxSK 1 t12 (.int .i64 (.ofNat 2)) fun t26 =>
K.stK t26 t24 h25 fun h27 =>
K.fldK 2 t2 fun t28 =>
K.ldK ctx 3 t28 h27 fun t29 =>
K.rK (convA ctx 3 37 t29 h27) fun t30 h31 =>
K.idxSK 1 t12 (.int .i64 (.ofNat 3)) fun t32 =>
K.stK t32 t30 h31 fun h33 =>
K.ldsK ctx 36 3 t2 h33 fun t34 =>
K.callFK run 9 [t34] h33 fun t35 h36 =>
K.idxSK 1 t12 t35 fun t37 =>
K.stK t37 (.int .u64 (.ofNat 3)) h36 fun h38 =>
K.ldsK ctx 36 3 t2 h38 fun t39 =>
K.callFK run 19 [t39] h38 fun t40 h41 =>
K.idxSK 1 t12 t40 fun t42 =>
K.stK t42 (.int .u64 (.ofNat 1)) h41 fun h43 =>
K.ldsK ctx 36 3 t2 h43 fun t44 =>
K.callFK run 10 [t44, (.int .i64 (.ofNat 1))] h43 fun t45 h46 =>
K.idxSK 1 t12 t45 fun t47 =>
K.stK t47 (.int .u64 (.ofNat 2)) h46 fun h48 =>
K.ldsK ctx 36 3 t2 h48 fun t49 =>
K.callFK run 10 [t49, (.int .i64 (.ofNat 1))] h48 fun t50 h51 =>
K.addK (K.binV ctx .add 3 true t50 (.int .i64 (.ofNat 1))) t50 (.int .i64 (.ofNat 1)) fun t52 =>
K.idxSK 1 t12 t52 fun t53 =>
K.stK t53 (.int .u64 (.ofNat 1)) h51 fun h54 =>
K.unmarkK [] h54 fun h55 => .ok t12 h55))
noncomputable def r9 : K.KRun → List AV → H → K.KR := fun run args h => K.uncons args fun t0 l1 => K.unnil l1 (
K.boxK t0 h fun t2 h3 =>
K.ldsK ctx 36 3 t2 h3 fun t4 =>
K.callFK run 17 [t4] h3 fun t5 h6 =>
K.notK t5 fun t7 =>
K.iteV t7 (
K.unmarkK [] h6 fun h8 => .ok (.int .i64 (.negSucc 0)) h8) (
K.ldsK ctx 36 3 t2 h6 fun t9 =>
K.callFK run 20 [t9] h6 fun t10 h11 =>
K.unmarkK [] h11 fun h12 => .ok t10 h12))
noncomputable def r10 : K.KRun → List AV → H → K.KR := fun run args h => K.uncons args fun t0 l1 => K.uncons l1 fun t2 l3 => K.unnil l3 (
K.boxK t0 h fun t4 h5 =>
K.ldsK ctx 36 3 t4 h5 fun t6 =>
K.callFK run 17 [t6] h5 fun t7 h8 =>
K.notK t7 fun t9 =>
K.letK (fun (t10 : AV) (h11 : H) => K.letK (fun (t13 : AV) (h14 : H) => K.pickK t9 (.bool true) t13 fun t16 =>
K.letK (fun (t17 : AV) (h18 : H) => K.letK (fun (t20 : AV) (h21 : H) => K.letK (fun (t23 : AV) (h24 : H) => K.letK (fun (t26 : AV) (h27 : H) => K.pickK t16 (.bool true) t26 fun t29 =>
K.iteV t29 (
K.unmarkK [] h27 fun h30 => .ok (.int .i64 (.negSucc 0)) h30) (
K.ldsK ctx 36 3 t4 h27 fun t31 =>
K.callFK run 20 [t31] h27 fun t32 h33 =>
K.addK (K.binV ctx .add 3 true t32 (.int .i64 (.ofNat 16))) t32 (.int .i64 (.ofNat 16)) fun t34 =>
K.mulK (K.binV ctx .mul 3 true (.int .i64 (.ofNat 16)) t2) (.int .i64 (.ofNat 16)) t2 fun t35 =>
K.addK (K.binV ctx .add 3 false t34 t35) t34 t35 fun t36 =>
K.unmarkK [] h33 fun h37 => .ok t36 h37)) fun j28 =>
K.guK false t16 (K.geK (K.binV ctx .geq 3 false t17 t23) t17 t23 fun t38 =>
j28 t38 h24) (j28 (.tup []) h24)) fun j25 =>
K.guK false t16 (K.ldK ctx 3 t20 h21 fun t39 =>
j25 t39 h21) (j25 (.tup []) h21)) fun j22 =>
K.guK false t16 (K.fldK 1 t4 fun t40 =>
j22 t40 h18) (j22 (.tup []) h18)) fun j19 =>
K.guK false t16 (j19 t2 h14) (j19 (.tup []) h14)) fun j15 =>
K.guK false t9 (K.ltK (K.binV ctx .lss 3 true t10 (.int .i64 (.ofNat 0))) t10 (.int .i64 (.ofNat 0)) fun t41 =>
j15 t41 h11) (j15 (.tup []) h11)) fun j12 =>
K.guK false t9 (j12 t2 h8) (j12 (.tup []) h8))
noncomputable def r11 : K.KRun → List AV → H → K.KR := fun run args h => K.uncons args fun t0 l1 => K.uncons l1 fun t2 l3 => K.unnil l3 (
K.lenVK t0 fun t4 =>
K.lenVK t2 fun t5 =>
K.neK (K.binV ctx .neq 3 false t4 t5) t4 t5 fun t6 =>
K.iteV t6 (
K.unmarkK [] h fun h7 => .ok (.bool false) h7) (
K.letK (fun (l8 : List AV) (m9 : List Nat) (h10 : H) => K.unnil l8 (
K.unmarkK m9 h10 fun h12 => .ok (.bool true) h12)) fun j11 =>
K.loopV (nat_lit 1000000) (fun s16 l13 m14 h15 => K.uncons l13 fun t17 l18 => K.uncons l18 fun t19 l20 => K.uncons l20 fun t21 l22 => K.unnil l22 (
K.lenVK t17 fun t23 =>
K.ltK (K.binV ctx .lss 3 false t21 t23) t21 t23 fun t24 =>
K.iteV t24 (
K.idxSK 1 t17 t21 fun t25 =>
K.ldK ctx 3 t25 h15 fun t26 =>
K.idxSK 1 t19 t21 fun t27 =>
K.ldK ctx 3 t27 h15 fun t28 =>
K.neK (K.binV ctx .neq 3 false t26 t28) t26 t28 fun t29 =>
K.iteV t29 (
K.unmarkK m14 h15 fun h30 => .ok (.bool false) h30) (
K.addK (K.binV ctx .add 3 true t21 (.int .i64 (.ofNat 1))) t21 (.int .i64 (.ofNat 1)) fun t31 =>
s16 [t17, t19, t31] m14 h15)) (
j11 [] m14 h15))) [t0, t2, (.int .i64 (.ofNat 0))] [] h))
noncomputable def r12 : K.KRun → List AV → H → K.KR := fun run args h => K.uncons args fun t0 l1 => K.unnil l1 (
K.boxK t0 h fun t2 h3 =>
K.fldK 0 t2 fun t4 =>
K.ldK ctx 3 t4 h3 fun t5 =>
K.callFK run 21 [t5, (.int .i64 (.ofNat 1)), (.int .i64 (.ofNat 4))] h3 fun t6 h7 =>
K.letK (fun (t8 : AV) (h9 : H) => K.letK (fun (t11 : AV) (h12 : H) => K.letK (fun (t14 : AV) (h15 : H) => K.pickK t6 t14 (.bool false) fun t17 =>
K.letK (fun (t18 : AV) (h19 : H) => K.letK (fun (t21 : AV) (h22 : H) => K.letK (fun (t24 : AV) (h25 : H) => K.pickK t17 t24 (.bool false) fun t27 =>
K.unmarkK [] h25 fun h28 => .ok t27 h28) fun j26 =>
K.guK true t17 (K.callFK run 21 [t21, (.int .i64 (.ofNat 2)), (.int .i64 (.ofNat 512))] h22 fun t29 h30 =>
j26 t29 h30) (j26 (.tup []) h22)) fun j23 =>
K.guK true t17 (K.ldK ctx 3 t18 h19 fun t31 =>
j23 t31 h19) (j23 (.tup []) h19)) fun j20 =>
K.guK true t17 (K.fldK 2 t2 fun t32 =>
j20 t32 h15) (j20 (.tup []) h15)) fun j16 =>
K.guK true t6 (K.callFK run 21 [t11, (.int .i64 (.ofNat 2)), (.int .i64 (.ofNat 64))] h12 fun t33 h34 =>
j16 t33 h34) (j16 (.tup []) h12)) fun j13 =>
K.guK true t6 (K.ldK ctx 3 t8 h9 fun t35 =>
j13 t35 h9) (j13 (.tup []) h9)) fun j10 =>
K.guK true t6 (K.fldK 1 t2 fun t36 =>
j10 t36 h7) (j10 (.tup []) h7))
noncomputable def r13 : K.KRun → List AV → H → K.KR := fun run args h => K.uncons args fun t0 l1 => K.unnil l1 (
K.boxK t0 h fun t2 h3 =>
K.ldsK ctx 25 3 t2 h3 fun t4 =>
K.callFK run 12 [t4] h3 fun t5 h6 =>
K.notK t5 fun t7 =>
K.iteV t7 (
K.unmarkK [] h6 fun h8 => .ok (.int .i64 (.ofNat 0)) h8) (
K.letK (fun (l9 : List AV) (m10 : List Nat) (h11 : H) => K.uncons l9 fun t13 l14 => K.unnil l14 (
K.unmarkK m10 h11 fun h15 => .ok t13 h15)) fun j12 =>
K.ldsK ctx 25 3 t2 h6 fun t16 =>
K.callFK run 22 [t16] h6 fun t17 h18 =>
K.loopV (nat_lit 1000000) (fun s22 l19 m20 h21 => K.uncons l19 fun t23 l24 => K.uncons l24 fun t25 l26 => K.uncons l26 fun t27 l28 => K.unnil l28 (
K.ltK (K.binV ctx .lss 3 true t27 (.int .i64 (.ofNat 7))) t27 (.int .i64 (.ofNat 7)) fun t29 =>
K.iteV t29 (
K.idxK ctx 62 3 7 t25 t27 fun t30 =>
K.allocK (K.zN ctx 62) (K.zT ctx 62) h21 fun t31 h32 =>
K.stsK 3 t31 t30 h32 fun h33 =>
K.fldK 1 t31 fun t34 =>
K.ldK ctx 3 t34 h33 fun t35 =>
K.fldK 2 t31 fun t36 =>
K.ldK ctx 3 t36 h33 fun t37 =>
K.mulK (K.binV ctx .mul 3 false t35 t37) t35 t37 fun t38 =>
K.addK (K.binV ctx .add 3 false t23 t38) t23 t38 fun t39 =>
K.addK (K.binV ctx .add 3 true t27 (.int .i64 (.ofNat 1))) t27 (.int .i64 (.ofNat 1)) fun t40 =>
s22 [t39, t25, t40] m20 h33) (
j12 [t23] m20 h21))) [(.int .i64 (.ofNat 0)), t17, (.int .i64 (.ofNat 0))] [] h18))
noncomputable def r14 : K.KRun → List AV → H → K.KR := fun run args h => K.uncons args fun t0 l1 => K.unnil l1 (
K.allocK (K.zN ctx 43) (K.zT ctx 43) h fun t2 h3 =>
K.allocK (K.zN ctx 29) (K.zT ctx 29) h3 fun t4 h5 =>
K.allocK (K.zN ctx 4) (K.zT ctx 4) h5 fun t6 h7 =>
K.defK ctx (.func (.func 23) [] [t4, t6]) (
K.callFK run 24 [t0] h7 fun t8 h9 =>
K.stK t2 t8 h9 fun h10 =>
K.letK (fun (l11 : List AV) (m12 : List Nat) (h13 : H) => K.uncons l11 fun t15 l16 => K.uncons l16 fun t17 l18 => K.uncons l18 fun t19 l20 => K.unnil l20 (
K.ldK ctx 43 t15 h13 fun t21 =>
K.bldSK ctx 29 [] fun t22 =>
K.stK t15 t21 h13 fun h23 =>
K.stsK 3 t17 t22 h23 fun h24 =>
K.stK t19 (.bool true) h24 fun h25 =>
K.unmarkK m12 h25 fun h26 => K.asPtr t15 fun n27 n28 => K.load1 h26 n27 n28 fun t29 => K.asPtr t17 fun n30 n31 => K.loads h26 n30 n31 3 fun t32 => K.asPtr t19 fun n33 n34 => K.load1 h26 n33 n34 fun t35 => .ok (.tup [t29, (.agg t32), t35]) h26)) fun j14 =>
K.ldK ctx 43 t2 h10 fun t36 =>
K.ldK ctx 43 t2 h10 fun t37 =>
K.ldK ctx 43 t2 h10 fun t38 =>
K.ldK ctx 43 t2 h10 fun t39 =>
K.ldK ctx 43 t2 h10 fun t40 =>
K.ldK ctx 43 t2 h10 fun t41 =>
K.ldK ctx 43 t2 h10 fun t42 =>
K.ldK ctx 43 t2 h10 fun t43 =>
K.bslK ctx 1 1 9 [(0, (.func (.func 25) [t36] [])), (1, (.func (.func 26) [t37] [])), (2, (.func (.func 27) [t38] [])), (3, (.func (.func 28) [t39] [])), (4, (.func (.func 29) [] [t2])), (5, (.func (.func 31) [t40] [])), (6, (.func (.func 32) [t41] [])), (7, (.func (.func 33) [t42] [])), (8, (.func (.func 34) [t43] []))] h10 fun t44 h45 =>
K.lenVK t44 fun t46 =>
K.loopV (nat_lit 1000000) (fun s50 l47 m48 h49 => K.uncons l47 fun t51 l52 => K.uncons l52 fun t53 l54 => K.uncons l54 fun t55 l56 => K.uncons l56 fun t57 l58 => K.uncons l58 fun t59 l60 => K.uncons l60 fun t61 l62 => K.unnil l62 (
K.ltK (K.binV ctx .lss 3 false t61 t59) t61 t59 fun t63 =>
K.iteV t63 (
K.idxSK 1 t57 t61 fun t64 =>
K.ldK ctx 1 t64 h49 fun t65 =>
K.callVK run t65 [] h49 fun t66 h67 =>
K.addK (K.binV ctx .add 3 true t61 (.int .i64 (.ofNat 1))) t61 (.int .i64 (.ofNat 1)) fun t68 =>
s50 [t51, t53, t55, t57, t59, t68] m48 h67) (
j14 [t51, t53, t55] m48 h49))) [t2, t4, t6, t44, t46, (.int .i64 (.ofNat 0))] [] h45))
noncomputable def r15 : K.KRun → List AV → H → K.KR := fun run args h => K.uncons args fun t0 l1 => K.uncons l1 fun t2 l3 => K.unnil l3 (
K.loopV (nat_lit 1000000) (fun s7 l4 m5 h6 => K.uncons l4 fun t8 l9 => K.uncons l9 fun t10 l11 => K.uncons l11 fun t12 l13 => K.unnil l13 (
K.nilK t8 fun t14 =>
K.fldK 1 t14 fun t15 =>
K.fldK 1 t15 fun t16 =>
K.ldK ctx 3 t16 h6 fun t17 =>
K.ltK (K.binV ctx .lss 3 false t12 t17) t12 t17 fun t18 =>
K.iteV t18 (
K.letK (fun (l19 : List AV) (m20 : List Nat) (h21 : H) => K.uncons l19 fun t23 l24 => K.uncons l24 fun t25 l26 => K.uncons l26 fun t27 l28 => K.unnil l28 (
K.addK (K.binV ctx .add 3 true t27 (.int .i64 (.ofNat 1))) t27 (.int .i64 (.ofNat 1)) fun t29 =>
s7 [t23, t25, t29] m20 h21)) fun j22 =>
K.nilK t8 fun t30 =>
K.fldK 646 t30 fun t31 =>
K.idxAK 64 1 t31 t12 fun t32 =>
K.ldK ctx 4 t32 h6 fun t33 =>
K.iteV t33 (
K.nilK t8 fun t34 =>
K.fldK 6 t34 fun t35 =>
K.idxAK 64 10 t35 t12 fun t36 =>
K.ldsK ctx 49 10 t36 h6 fun t37 =>
K.callVK run t10 [t12, t37] h6 fun t38 h39 =>
j22 [t8, t10, t12] m5 h39) (
j22 [t8, t10, t12] m5 h6)) (
K.unmarkK m5 h6 fun h40 => .ok (.tup []) h40))) [t0, t2, (.int .i64 (.ofNat 1))] [] h)
noncomputable def r16 : K.KRun → List AV → H → K.KR := fun run args h => K.uncons args fun t0 l1 => K.uncons l1 fun t2 l3 => K.uncons l3 fun t4 l5 => K.uncons l5 fun t6 l7 => K.unnil l7 (
K.boxK t2 h fun t8 h9 =>
K.ldK ctx 43 t4 h9 fun t10 =>
K.nilK t10 fun t11 =>
K.fldK 710 t11 fun t12 =>
K.idxAK 64 1 t12 t0 fun t13 =>
K.ldK ctx 37 t13 h9 fun t14 =>
K.ldK ctx 43 t4 h9 fun t15 =>
K.nilK t15 fun t16 =>
K.fldK 774 t16 fun t17 =>
K.idxAK 64 1 t17 t0 fun t18 =>
K.ldK ctx 37 t18 h9 fun t19 =>
K.addK (K.binV ctx .add 37 false t14 t19) t14 t19 fun t20 =>
K.gtK (K.binV ctx .gtr 37 true t20 (.int .u64 (.ofNat 0))) t20 (.int .u64 (.ofNat 0)) fun t21 =>
K.iteV t21 (
K.ldK ctx 32 t6 h9 fun t22 =>
K.bslK ctx 3 1 1 [(0, t0)] h9 fun t23 h24 =>
K.appK ctx 3 1 t22 t23 h24 fun t25 h26 =>
K.stK t6 t25 h26 fun h27 =>
K.unmarkK [] h27 fun h28 => .ok (.tup []) h28) (
K.unmarkK [] h9 fun h29 => .ok (.tup []) h29))
noncomputable def r17 : K.KRun → List AV → H → K.KR := fun run args h => K.uncons args fun t0 l1 => K.unnil l1 (
K.boxK t0 h fun t2 h3 =>
K.fldK 0 t2 fun t4 =>
K.ldK ctx 3 t4 h3 fun t5 =>
K.geK (K.binV ctx .geq 3 true t5 (.int .i64 (.ofNat 1))) t5 (.int .i64 (.ofNat 1)) fun t6 =>
K.letK (fun (t7 : AV) (h8 : H) => K.letK (fun (t10 : AV) (h11 : H) => K.letK (fun (t13 : AV) (h14 : H) => K.pickK t6 t13 (.bool false) fun t16 =>
K.letK (fun (t17 : AV) (h18 : H) => K.letK (fun (t20 : AV) (h21 : H) => K.letK (fun (t23 : AV) (h24 : H) => K.pickK t16 t23 (.bool false) fun t26 =>
K.letK (fun (t27 : AV) (h28 : H) => K.letK (fun (t30 : AV) (h31 : H) => K.letK (fun (t33 : AV) (h34 : H) => K.pickK t26 t33 (.bool false) fun t36 =>
K.letK (fun (t37 : AV) (h38 : H) => K.letK (fun (t40 : AV) (h41 : H) => K.letK (fun (t43 : AV) (h44 : H) => K.pickK t36 t43 (.bool false) fun t46 =>
K.letK (fun (t47 : AV) (h48 : H) => K.letK (fun (t50 : AV) (h51 : H) => K.letK (fun (t53 : AV) (h54 : H) => K.pickK t46 t53 (.bool false) fun t56 =>
K.unmarkK [] h54 fun h57 => .ok t56 h57) fun j55 =>
K.guK true t46 (K.leK (K.binV ctx .leq 3 true t50 (.int .i64 (.ofNat 512))) t50 (.int .i64 (.ofNat 512)) fun t58 =>
j55 t58 h51) (j55 (.tup []) h51)) fun j52 =>
K.guK true t46 (K.ldK ctx 3 t47 h48 fun t59 =>
j52 t59 h48) (j52 (.tup []) h48)) fun j49 =>
K.guK true t46 (K.fldK 2 t2 fun t60 =>
j49 t60 h44) (j49 (.tup []) h44)) fun j45 =>
K.guK true t36 (K.geK (K.binV ctx .geq 3 true t40 (.int .i64 (.ofNat 2))) t40 (.int .i64 (.ofNat 2)) fun t61 =>
j45 t61 h41) (j45 (.tup []) h41)) fun j42 =>
K.guK true t36 (K.ldK ctx 3 t37 h38 fun t62 =>
j42 t62 h38) (j42 (.tup []) h38)) fun j39 =>
K.guK true t36 (K.fldK 2 t2 fun t63 =>
j39 t63 h34) (j39 (.tup []) h34)) fun j35 =>
K.guK true t26 (K.leK (K.binV ctx .leq 3 true t30 (.int .i64 (.ofNat 64))) t30 (.int .i64 (.ofNat 64)) fun t64 =>
j35 t64 h31) (j35 (.tup []) h31)) fun j32 =>
K.guK true t26 (K.ldK ctx 3 t27 h28 fun t65 =>
j32 t65 h28) (j32 (.tup []) h28)) fun j29 =>
K.guK true t26 (K.fldK 1 t2 fun t66 =>
j29 t66 h24) (j29 (.tup []) h24)) fun j25 =>
K.guK true t16 (K.geK (K.binV ctx .geq 3 true t20 (.int .i64 (.ofNat 2))) t20 (.int .i64 (.ofNat 2)) fun t67 =>
j25 t67 h21) (j25 (.tup []) h21)) fun j22 =>
K.guK true t16 (K.ldK ctx 3 t17 h18 fun t68 =>
j22 t68 h18) (j22 (.tup []) h18)) fun j19 =>
K.guK true t16 (K.fldK 1 t2 fun t69 =>
j19 t69 h14) (j19 (.tup []) h14)) fun j15 =>
K.guK true t6 (K.leK (K.binV ctx .leq 3 true t10 (.int .i64 (.ofNat 4))) t10 (.int .i64 (.ofNat 4)) fun t70 =>
j15 t70 h11) (j15 (.tup []) h11)) fun j12 =>
K.guK true t6 (K.ldK ctx 3 t7 h8 fun t71 =>
j12 t71 h8) (j12 (.tup []) h8)) fun j9 =>
K.guK true t6 (K.fldK 0 t2 fun t72 =>
j9 t72 h3) (j9 (.tup []) h3))
noncomputable def r18 : K.KRun → List AV → H → K.KR := fun run args h => K.uncons args fun t0 l1 => K.unnil l1 (
K.boxK t0 h fun t2 h3 =>
K.ldsK ctx 36 3 t2 h3 fun t4 =>
K.callFK run 17 [t4] h3 fun t5 h6 =>
K.notK t5 fun t7 =>
K.iteV t7 (
K.unmarkK [] h6 fun h8 => .ok (.int .i64 (.ofNat 0)) h8) (
K.ldsK ctx 36 3 t2 h6 fun t9 =>
K.fldK 1 t2 fun t10 =>
K.ldK ctx 3 t10 h6 fun t11 =>
K.mulK (K.binV ctx .mul 3 true (.int .i64 (.ofNat 16)) t11) (.int .i64 (.ofNat 16)) t11 fun t12 =>
K.fldK 2 t2 fun t13 =>
K.ldK ctx 3 t13 h6 fun t14 =>
K.mulK (K.binV ctx .mul 3 true (.int .i64 (.ofNat 8)) t14) (.int .i64 (.ofNat 8)) t14 fun t15 =>
K.callFK run 20 [t9] h6 fun t16 h17 =>
K.ldK ctx 3 t13 h17 fun t18 =>
K.req (AV.same t14 t18) (
K.ldK ctx 3 t10 h17 fun t19 =>
K.req (AV.same t11 t19) (
K.addK (K.binV ctx .add 3 true t16 (.int .i64 (.ofNat 16))) t16 (.int .i64 (.ofNat 16)) fun t20 =>
K.addK (K.binV ctx .add 3 false t20 t12) t20 t12 fun t21 =>
K.addK (K.binV ctx .add 3 false t21 t15) t21 t15 fun t22 =>
K.unmarkK [] h17 fun h23 => .ok t22 h23))))
noncomputable def r19 : K.KRun → List AV → H → K.KR := fun run args h => K.uncons args fun t0 l1 => K.unnil l1 (
K.boxK t0 h fun t2 h3 =>
K.ldsK ctx 36 3 t2 h3 fun t4 =>
K.callFK run 17 [t4] h3 fun t5 h6 =>
K.notK t5 fun t7 =>
K.iteV t7 (
K.unmarkK [] h6 fun h8 => .ok (.int .i64 (.negSucc 0)) h8) (
K.ldsK ctx 36 3 t2 h6 fun t9 =>
K.callFK run 20 [t9] h6 fun t10 h11 =>
K.addK (K.binV ctx .add 3 true t10 (.int .i64 (.ofNat 8))) t10 (.int .i64 (.ofNat 8)) fun t12 =>
K.unmarkK [] h11 fun h13 => .ok t12 h13))
noncomputable def r20 : K.KRun → List AV → H → K.KR := fun run args h => K.uncons args fun t0 l1 => K.unnil l1 (
K.boxK t0 h fun t2 h3 =>
K.fldK 0 t2 fun t4 =>
K.ldK ctx 3 t4 h3 fun t5 =>
K.mulK (K.binV ctx .mul 3 true (.int .i64 (.ofNat 208)) t5) (.int .i64 (.ofNat 208)) t5 fun t6 =>
K.callFK run 35 [] h3 fun t7 h8 =>
K.ldK ctx 3 t4 h8 fun t9 =>
K.req (AV.same t5 t9) (
K.addK (K.binV ctx .add 3 false t7 t6) t7 t6 fun t10 =>
K.unmarkK [] h8 fun h11 => .ok t10 h11))
noncomputable def r21 : K.KRun → List AV → H → K.KR := fun run args h => K.uncons args fun t0 l1 => K.uncons l1 fun t2 l3 => K.uncons l3 fun t4 l5 => K.unnil l5 (
K.geK (K.binV ctx .geq 3 false t0 t2) t0 t2 fun t6 =>
K.letK (fun (t7 : AV) (h8 : H) => K.letK (fun (t10 : AV) (h11 : H) => K.letK (fun (t13 : AV) (h14 : H) => K.pickK t6 t13 (.bool false) fun t16 =>
K.unmarkK [] h14 fun h17 => .ok t16 h17) fun j15 =>
K.guK true t6 (K.leK (K.binV ctx .leq 3 false t7 t10) t7 t10 fun t18 =>
j15 t18 h11) (j15 (.tup []) h11)) fun j12 =>
K.guK true t6 (j12 t4 h8) (j12 (.tup []) h8)) fun j9 =>
K.guK true t6 (j9 t0 h) (j9 (.tup []) h))
noncomputable def r22 : K.KRun → List AV → H → K.KR := fun run args h => K.uncons args fun t0 l1 => K.unnil l1 (
K.boxK t0 h fun t2 h3 =>
K.allocK (K.zN ctx 63) (K.zT ctx 63) h3 fun t4 h5 =>
K.bldSK ctx 62 [(0, (.int .u8 (.ofNat 1))), (1, (.int .i64 (.ofNat 8))), (2, (.int .i64 (.ofNat 1)))] fun t6 =>
K.bldSK ctx 62 [(0, (.int .u8 (.ofNat 2))), (1, (.int .i64 (.ofNat 64))), (2, (.int .i64 (.ofNat 4)))] fun t7 =>
K.fldK 0 t2 fun t8 =>
K.ldK ctx 3 t8 h5 fun t9 =>
K.bldSK ctx 62 [(0, (.int .u8 (.ofNat 5))), (1, (.int .i64 (.ofNat 208))), (2, t9)] fun t10 =>
K.bldSK ctx 62 [(0, (.int .u8 (.ofNat 6))), (1, (.int .i64 (.ofNat 8))), (2, (.int .i64 (.ofNat 1)))] fun t11 =>
K.bldSK ctx 62 [(0, (.int .u8 (.ofNat 7))), (1, (.int .i64 (.ofNat 8))), (2, (.int .i64 (.ofNat 1)))] fun t12 =>
K.fldK 1 t2 fun t13 =>
K.ldK ctx 3 t13 h5 fun t14 =>
K.bldSK ctx 62 [(0, (.int .u8 (.ofNat 8))), (1, (.int .i64 (.ofNat 16))), (2, t14)] fun t15 =>
K.fldK 2 t2 fun t16 =>
K.ldK ctx 3 t16 h5 fun t17 =>
K.bldSK ctx 62 [(0, (.int .u8 (.ofNat 9))), (1, (.int .i64 (.ofNat 8))), (2, t17)] fun t18 =>
K.bldAK ctx 63 3 [(0, t6), (1, t7), (2, t10), (3, t11), (4, t12), (5, t15), (6, t18)] fun t19 =>
K.stsK 21 t4 t19 h5 fun h20 =>
K.unmarkK [] h20 fun h21 => K.asPtr t4 fun n22 n23 => K.loads h21 n22 n23 21 fun t24 => .ok (.agg t24) h21)
noncomputable def r23 : K.KRun → List AV → H → K.KR := fun run args h => K.uncons args fun t0 l1 => K.uncons l1 fun t2 l3 => K.unnil l3 (
K.slowK ctx run (K.opAt Go.Proofs.Tryz.f23 0 0) [] [] h fun t4 h5 =>
K.neK (K.binV ctx .neq 20 true t4 .nilIface) t4 .nilIface fun t6 =>
K.iteV t6 (
K.slowK ctx run (K.opAt Go.Proofs.Tryz.f23 2 1) [6] [t4] h5 fun t7 h8 =>
K.stsK 3 t0 t7 h8 fun h9 =>
K.stK t2 (.bool false) h9 fun h10 =>
K.unmarkK [] h10 fun h11 => .ok (.tup []) h11) (
K.unmarkK [] h5 fun h12 => .ok (.tup []) h12))
noncomputable def r24 : K.KRun → List AV → H → K.KR := fun run args h => K.uncons args fun t0 l1 => K.unnil l1 (
K.callFK run 5 [t0] h fun t2 h3 =>
K.extK t2 0 fun t4 =>
K.extK t2 1 fun t5 =>
K.allocK (K.zN ctx 25) (K.zT ctx 25) h3 fun t6 h7 =>
K.stsK 3 t6 t4 h7 fun h8 =>
K.callFK run 36 [t5, (.int .i64 (.ofNat 1)), (.int .i64 (.ofNat 0)), (.int .i64 (.ofNat 0))] h8 fun t9 h10 =>
K.ldsK ctx 25 3 t6 h10 fun t11 =>
K.callFK run 37 [t0] h10 fun t12 h13 =>
K.ldsK ctx 25 3 t6 h13 fun t14 =>
K.req (AV.same t11 t14) (
K.bldSK ctx 56 [(0, t12), (1, t11)] fun t15 =>
K.boxK t15 h13 fun t16 h17 =>
K.nilK t16 fun t18 =>
K.fldK 0 t18 fun t19 =>
K.ldK ctx 50 t19 h17 fun t20 =>
K.ldsK ctx 25 3 t6 h17 fun t21 =>
K.fldK 1 t6 fun t22 =>
K.ldK ctx 3 t22 h17 fun t23 =>
K.callFK run 39 [t21] h17 fun t24 h25 =>
K.ldK ctx 3 t22 h25 fun t26 =>
K.req (AV.same t23 t26) (
K.ldK ctx 50 t19 h25 fun t27 =>
K.req (AV.same t20 t27) (
K.callFK run 38 [t20, t24, t23] h25 fun t28 h29 =>
K.extK t28 0 fun t30 =>
K.extK t28 1 fun t31 =>
K.nilK t16 fun t32 =>
K.fldK 4 t32 fun t33 =>
K.stK t33 t30 h29 fun h34 =>
K.nilK t16 fun t35 =>
K.fldK 0 t35 fun t36 =>
K.ldK ctx 50 t36 h34 fun t37 =>
K.ldsK ctx 25 3 t6 h34 fun t38 =>
K.fldK 2 t6 fun t39 =>
K.ldK ctx 3 t39 h34 fun t40 =>
K.callFK run 40 [t38] h34 fun t41 h42 =>
K.ldK ctx 3 t39 h42 fun t43 =>
K.req (AV.same t40 t43) (
K.ldK ctx 50 t36 h42 fun t44 =>
K.req (AV.same t37 t44) (
K.callFK run 38 [t37, t41, t40] h42 fun t45 h46 =>
K.extK t45 0 fun t47 =>
K.extK t45 1 fun t48 =>
K.nilK t16 fun t49 =>
K.fldK 5 t49 fun t50 =>
K.stK t50 t47 h46 fun h51 =>
K.eqK (K.binV ctx .eql 71 true t31 (.int .i64 (.ofNat 0))) t31 (.int .i64 (.ofNat 0)) fun t52 =>
K.letK (fun (t53 : AV) (h54 : H) => K.letK (fun (t56 : AV) (h57 : H) => K.pickK t52 t56 (.bool false) fun t59 =>
K.callFK run 36 [t59, (.int .i64 (.ofNat 1)), (.int .i64 (.ofNat 0)), (.int .i64 (.ofNat 0))] h57 fun t60 h61 =>
K.letK (fun (l62 : List AV) (m63 : List Nat) (h64 : H) => K.uncons l62 fun t66 l67 => K.unnil l67 (
K.nilK t66 fun t68 =>
K.fldK 4 t68 fun t69 =>
K.ldK ctx 51 t69 h64 fun t70 =>
K.callFK run 42 [t70, (.int .i64 (.ofNat 0))] h64 fun t71 h72 =>
K.letK (fun (t73 : AV) (h74 : H) => K.letK (fun (t76 : AV) (h77 : H) => K.letK (fun (t79 : AV) (h80 : H) => K.letK (fun (t82 : AV) (h83 : H) => K.letK (fun (t85 : AV) (h86 : H) => K.pickK t71 t85 (.bool false) fun t88 =>
K.letK (fun (t89 : AV) (h90 : H) => K.letK (fun (t92 : AV) (h93 : H) => K.letK (fun (t95 : AV) (h96 : H) => K.letK (fun (t98 : AV) (h99 : H) => K.letK (fun (t101 : AV) (h102 : H) => K.pickK t88 t101 (.bool false) fun t104 =>
K.callFK run 36 [t104, (.int .i64 (.ofNat 1)), (.int .i64 (.ofNat 0)), (.int .i64 (.ofNat 0))] h102 fun t105 h106 =>
K.callFK run 43 [t66, (.int .i64 (.ofNat 1)), (.int .u64 (.ofNat 2))] h106 fun t107 h108 =>
K.letK (fun (t109 : AV) (h110 : H) => K.letK (fun (t112 : AV) (h113 : H) => K.letK (fun (t115 : AV) (h116 : H) => K.letK (fun (t118 : AV) (h119 : H) => K.letK (fun (t121 : AV) (h122 : H) => K.letK (fun (t124 : AV) (h125 : H) => K.letK (fun (t127 : AV) (h128 : H) => K.pickK t107 t127 (.bool false) fun t130 =>
K.callFK run 36 [t130, (.int .i64 (.ofNat 1)), (.int .i64 (.ofNat 0)), (.int .i64 (.ofNat 0))] h128 fun t131 h132 =>
K.unmarkK m63 h132 fun h133 => .ok t66 h133) fun j129 =>
K.guK true t107 (K.eqK (K.binV ctx .eql 37 true t124 (.int .u64 (.ofNat 0))) t124 (.int .u64 (.ofNat 0)) fun t134 =>
j129 t134 h125) (j129 (.tup []) h125)) fun j126 =>
K.guK true t107 (K.ldK ctx 37 t121 h122 fun t135 =>
j126 t135 h122) (j126 (.tup []) h122)) fun j123 =>
K.guK true t107 (K.fldK 9 t118 fun t136 =>
j123 t136 h119) (j123 (.tup []) h119)) fun j120 =>
K.guK true t107 (K.idxAK 64 10 t115 (.int .i64 (.ofNat 1)) fun t137 =>
j120 t137 h116) (j120 (.tup []) h116)) fun j117 =>
K.guK true t107 (K.fldK 6 t112 fun t138 =>
j117 t138 h113) (j117 (.tup []) h113)) fun j114 =>
K.guK true t107 (K.nilK t109 fun t139 =>
j114 t139 h110) (j114 (.tup []) h110)) fun j111 =>
K.guK true t107 (j111 t66 h108) (j111 (.tup []) h108)) fun j103 =>
K.guK true t88 (K.callFK run 42 [t98, (.int .i64 (.ofNat 0))] h99 fun t140 h141 =>
j103 t140 h141) (j103 (.tup []) h99)) fun j100 =>
K.guK true t88 (K.ldK ctx 51 t95 h96 fun t142 =>
j100 t142 h96) (j100 (.tup []) h96)) fun j97 =>
K.guK true t88 (K.fldK 5 t92 fun t143 =>
j97 t143 h93) (j97 (.tup []) h93)) fun j94 =>
K.guK true t88 (K.nilK t89 fun t144 =>
j94 t144 h90) (j94 (.tup []) h90)) fun j91 =>
K.guK true t88 (j91 t66 h86) (j91 (.tup []) h86)) fun j87 =>
K.guK true t71 (K.callFK run 42 [t82, (.int .i64 (.ofNat 1))] h83 fun t145 h146 =>
j87 t145 h146) (j87 (.tup []) h83)) fun j84 =>
K.guK true t71 (K.ldK ctx 51 t79 h80 fun t147 =>
j84 t147 h80) (j84 (.tup []) h80)) fun j81 =>
K.guK true t71 (K.fldK 4 t76 fun t148 =>
j81 t148 h77) (j81 (.tup []) h77)) fun j78 =>
K.guK true t71 (K.nilK t73 fun t149 =>
j78 t149 h74) (j78 (.tup []) h74)) fun j75 =>
K.guK true t71 (j75 t66 h72) (j75 (.tup []) h72))) fun j65 =>
K.loopV (nat_lit 1000000) (fun s153 l150 m151 h152 => K.uncons l150 fun t154 l155 => K.uncons l155 fun t156 l157 => K.uncons l157 fun t158 l159 => K.unnil l159 (
K.fldK 1 t154 fun t160 =>
K.ldK ctx 3 t160 h152 fun t161 =>
K.ltK (K.binV ctx .lss 3 false t158 t161) t158 t161 fun t162 =>
K.iteV t162 (
K.nilK t156 fun t163 =>
K.fldK 0 t163 fun t164 =>
K.ldK ctx 50 t164 h152 fun t165 =>
K.ldsK ctx 25 3 t154 h152 fun t166 =>
K.callFK run 41 [t165, t166, t158] h152 fun t167 h168 =>
K.extK t167 0 fun t169 =>
K.extK t167 1 fun t170 =>
K.allocK (K.zN ctx 49) (K.zT ctx 49) h168 fun t171 h172 =>
K.stsK 10 t171 t169 h172 fun h173 =>
K.ldsK ctx 49 10 t171 h173 fun t174 =>
K.eqK (K.binV ctx .eql 71 true t170 (.int .i64 (.ofNat 0))) t170 (.int .i64 (.ofNat 0)) fun t175 =>
K.nilK t156 fun t176 =>
K.fldK 6 t176 fun t177 =>
K.idxAK 64 10 t177 t158 fun t178 =>
K.nilK t156 fun t179 =>
K.fldK 646 t179 fun t180 =>
K.stsK 10 t178 t174 h173 fun h181 =>
K.idxAK 64 1 t180 t158 fun t182 =>
K.stK t182 t175 h181 fun h183 =>
K.addK (K.binV ctx .add 3 true t158 (.int .i64 (.ofNat 1))) t158 (.int .i64 (.ofNat 1)) fun t184 =>
s153 [t154, t156, t184] m151 h183) (
j65 [t156] m151 h152))) [t6, t16, (.int .i64 (.ofNat 1))] [] h61) fun j58 =>
K.guK true t52 (K.eqK (K.binV ctx .eql 71 true t53 (.int .i64 (.ofNat 0))) t53 (.int .i64 (.ofNat 0)) fun t185 =>
j58 t185 h54) (j58 (.tup []) h54)) fun j55 =>
K.guK true t52 (j55 t48 h51) (j55 (.tup []) h51)))))))
noncomputable def r25 : K.KRun → List AV → H → K.KR := fun run args h => K.uncons args fun t0 l1 => K.unnil l1 (
K.loopV (nat_lit 1000000) (fun s5 l2 m3 h4 => K.uncons l2 fun t6 l7 => K.uncons l7 fun t8 l9 => K.unnil l9 (
K.ltK (K.binV ctx .lss 3 true t8 (.int .i64 (.ofNat 4))) t8 (.int .i64 (.ofNat 4)) fun t10 =>
K.iteV t10 (
K.letK (fun (l11 : List AV) (m12 : List Nat) (h13 : H) => K.uncons l11 fun t15 l16 => K.uncons l16 fun t17 l18 => K.unnil l18 (
K.addK (K.binV ctx .add 3 true t17 (.int .i64 (.ofNat 1))) t17 (.int .i64 (.ofNat 1)) fun t19 =>
s5 [t15, t19] m12 h13)) fun j14 =>
K.nilK t6 fun t20 =>
K.fldK 0 t20 fun t21 =>
K.ldK ctx 50 t21 h4 fun t22 =>
K.callFK run 44 [t22, t8] h4 fun t23 h24 =>
K.extK t23 0 fun t25 =>
K.extK t23 1 fun t26 =>
K.allocK (K.zN ctx 79) (K.zT ctx 79) h24 fun t27 h28 =>
K.stsK 3 t27 t25 h28 fun h29 =>
K.eqK (K.binV ctx .eql 71 true t26 (.int .i64 (.ofNat 0))) t26 (.int .i64 (.ofNat 0)) fun t30 =>
K.callFK run 36 [t30, (.int .i64 (.ofNat 2)), t8, (.int .i64 (.ofNat 0))] h29 fun t31 h32 =>
K.loopV (nat_lit 1000000) (fun s36 l33 m34 h35 => K.uncons l33 fun t37 l38 => K.uncons l38 fun t39 l40 => K.uncons l40 fun t41 l42 => K.uncons l42 fun t43 l44 => K.uncons l44 fun t45 l46 => K.unnil l46 (
K.ltK (K.binV ctx .lss 3 true t45 (.int .i64 (.ofNat 4))) t45 (.int .i64 (.ofNat 4)) fun t47 =>
K.iteV t47 (
K.fldK 0 t41 fun t48 =>
K.ldK ctx 4 t48 h35 fun t49 =>
K.letK (fun (t50 : AV) (h51 : H) => K.letK (fun (t53 : AV) (h54 : H) => K.letK (fun (t56 : AV) (h57 : H) => K.letK (fun (t59 : AV) (h60 : H) => K.pickK t49 (.bool true) t59 fun t62 =>
K.callFK run 36 [t62, (.int .i64 (.ofNat 2)), t39, (.int .i64 (.ofNat 0))] h60 fun t63 h64 =>
K.addK (K.binV ctx .add 3 true t45 (.int .i64 (.ofNat 1))) t45 (.int .i64 (.ofNat 1)) fun t65 =>
s36 [t37, t39, t41, t43, t65] m34 h64) fun j61 =>
K.guK false t49 (K.callFK run 45 [t50, t53, t56] h57 fun t66 h67 =>
j61 t66 h67) (j61 (.tup []) h57)) fun j58 =>
K.guK false t49 (j58 t45 h54) (j58 (.tup []) h54)) fun j55 =>
K.guK false t49 (j55 t39 h51) (j55 (.tup []) h51)) fun j52 =>
K.guK false t49 (j52 t37 h35) (j52 (.tup []) h35)) (
j14 [t37, t43] m34 h35))) [t6, t8, t27, t8, (.int .i64 (.ofNat 0))] m3 h32) (
K.unmarkK m3 h4 fun h68 => .ok (.tup []) h68))) [t0, (.int .i64 (.ofNat 0))] [] h)
noncomputable def r26 : K.KRun → List AV → H → K.KR := fun run args h => K.uncons args fun t0 l1 => K.unnil l1 (
K.loopV (nat_lit 1000000) (fun s5 l2 m3 h4 => K.uncons l2 fun t6 l7 => K.uncons l7 fun t8 l9 => K.unnil l9 (
K.ltK (K.binV ctx .lss 3 true t8 (.int .i64 (.ofNat 4))) t8 (.int .i64 (.ofNat 4)) fun t10 =>
K.iteV t10 (
K.letK (fun (l11 : List AV) (m12 : List Nat) (h13 : H) => K.uncons l11 fun t15 l16 => K.uncons l16 fun t17 l18 => K.unnil l18 (
K.addK (K.binV ctx .add 3 true t17 (.int .i64 (.ofNat 1))) t17 (.int .i64 (.ofNat 1)) fun t19 =>
s5 [t15, t19] m12 h13)) fun j14 =>
K.nilK t6 fun t20 =>
K.fldK 0 t20 fun t21 =>
K.ldK ctx 50 t21 h4 fun t22 =>
K.callFK run 44 [t22, t8] h4 fun t23 h24 =>
K.extK t23 0 fun t25 =>
K.extK t23 1 fun t26 =>
K.allocK (K.zN ctx 79) (K.zT ctx 79) h24 fun t27 h28 =>
K.stsK 3 t27 t25 h28 fun h29 =>
K.loopV (nat_lit 1000000) (fun s33 l30 m31 h32 => K.uncons l30 fun t34 l35 => K.uncons l35 fun t36 l37 => K.uncons l37 fun t38 l39 => K.uncons l39 fun t40 l41 => K.uncons l41 fun t42 l43 => K.unnil l43 (
K.ltK (K.binV ctx .lss 3 true t42 (.int .i64 (.ofNat 4))) t42 (.int .i64 (.ofNat 4)) fun t44 =>
K.iteV t44 (
K.nilK t34 fun t45 =>
K.fldK 0 t45 fun t46 =>
K.ldK ctx 50 t46 h32 fun t47 =>
K.callFK run 46 [t47, t36, t42] h32 fun t48 h49 =>
K.extK t48 0 fun t50 =>
K.extK t48 1 fun t51 =>
K.extK t48 2 fun t52 =>
K.allocK (K.zN ctx 84) (K.zT ctx 84) h49 fun t53 h54 =>
K.stsK 4 t53 t51 h54 fun h55 =>
K.eqK (K.binV ctx .eql 71 true t52 (.int .i64 (.ofNat 0))) t52 (.int .i64 (.ofNat 0)) fun t56 =>
K.letK (fun (t57 : AV) (h58 : H) => K.letK (fun (t60 : AV) (h61 : H) => K.letK (fun (t63 : AV) (h64 : H) => K.letK (fun (t66 : AV) (h67 : H) => K.letK (fun (t69 : AV) (h70 : H) => K.letK (fun (t72 : AV) (h73 : H) => K.letK (fun (t75 : AV) (h76 : H) => K.letK (fun (t78 : AV) (h79 : H) => K.letK (fun (t81 : AV) (h82 : H) => K.pickK t56 t81 (.bool false) fun t84 =>
K.callFK run 36 [t84, (.int .i64 (.ofNat 3)), t36, t42] h82 fun t85 h86 =>
K.fldK 0 t38 fun t87 =>
K.ldK ctx 4 t87 h86 fun t88 =>
K.notK t88 fun t89 =>
K.letK (fun (t90 : AV) (h91 : H) => K.letK (fun (t93 : AV) (h94 : H) => K.letK (fun (t96 : AV) (h97 : H) => K.letK (fun (t99 : AV) (h100 : H) => K.pickK t89 (.bool true) t99 fun t102 =>
K.letK (fun (t103 : AV) (h104 : H) => K.letK (fun (t106 : AV) (h107 : H) => K.letK (fun (t109 : AV) (h110 : H) => K.letK (fun (t112 : AV) (h113 : H) => K.letK (fun (t115 : AV) (h116 : H) => K.pickK t102 (.bool true) t115 fun t118 =>
K.callFK run 36 [t118, (.int .i64 (.ofNat 3)), t36, t42] h116 fun t119 h120 =>
K.addK (K.binV ctx .add 3 true t42 (.int .i64 (.ofNat 1))) t42 (.int .i64 (.ofNat 1)) fun t121 =>
s33 [t34, t36, t38, t40, t121] m31 h120) fun j117 =>
K.guK false t102 (K.leK (K.binV ctx .leq 37 true t112 (.int .u64 (.ofNat 4))) t112 (.int .u64 (.ofNat 4)) fun t122 =>
j117 t122 h113) (j117 (.tup []) h113)) fun j114 =>
K.guK false t102 (K.subK (K.binV ctx .sub 37 false t103 t109) t103 t109 fun t123 =>
j114 t123 h110) (j114 (.tup []) h110)) fun j111 =>
K.guK false t102 (K.ldK ctx 37 t106 h107 fun t124 =>
j111 t124 h107) (j111 (.tup []) h107)) fun j108 =>
K.guK false t102 (K.fldK 2 t38 fun t125 =>
j108 t125 h104) (j108 (.tup []) h104)) fun j105 =>
K.guK false t102 (j105 t50 h100) (j105 (.tup []) h100)) fun j101 =>
K.guK false t89 (K.leK (K.binV ctx .leq 37 false t90 t96) t90 t96 fun t126 =>
j101 t126 h97) (j101 (.tup []) h97)) fun j98 =>
K.guK false t89 (K.ldK ctx 37 t93 h94 fun t127 =>
j98 t127 h94) (j98 (.tup []) h94)) fun j95 =>
K.guK false t89 (K.fldK 2 t38 fun t128 =>
j95 t128 h91) (j95 (.tup []) h91)) fun j92 =>
K.guK false t89 (j92 t50 h86) (j92 (.tup []) h86)) fun j83 =>
K.guK true t56 (K.pickK t63 (.bool true) t78 fun t129 =>
j83 t129 h79) (j83 (.tup []) h79)) fun j80 =>
K.guK false t63 (K.eqK (K.binV ctx .eql 37 false t69 t75) t69 t75 fun t130 =>
j80 t130 h76) (j80 (.tup []) h76)) fun j77 =>
K.guK false t63 (K.rK (convA ctx 3 37 t72 h73) fun t131 h132 =>
j77 t131 h132) (j77 (.tup []) h73)) fun j74 =>
K.guK false t63 (j74 t42 h70) (j74 (.tup []) h70)) fun j71 =>
K.guK false t63 (K.oK (K.binV ctx .rem 37 true t66 (.int .u64 (.ofNat 4))) fun t133 =>
j71 t133 h67) (j71 (.tup []) h67)) fun j68 =>
K.guK false t63 (j68 t50 h64) (j68 (.tup []) h64)) fun j65 =>
K.guK true t56 (j65 t60 h61) (j65 (.tup []) h61)) fun j62 =>
K.guK true t56 (K.eqK (K.binV ctx .eql 37 true t57 (.int .u64 (.ofNat 0))) t57 (.int .u64 (.ofNat 0)) fun t134 =>
j62 t134 h58) (j62 (.tup []) h58)) fun j59 =>
K.guK true t56 (j59 t50 h55) (j59 (.tup []) h55)) (
j14 [t34, t40] m31 h32))) [t6, t8, t27, t8, (.int .i64 (.ofNat 0))] m3 h29) (
K.unmarkK m3 h4 fun h135 => .ok (.tup []) h135))) [t0, (.int .i64 (.ofNat 0))] [] h)
noncomputable def r27 : K.KRun → List AV → H → K.KR := fun run args h => K.uncons args fun t0 l1 => K.unnil l1 (
K.loopV (nat_lit 1000000) (fun s5 l2 m3 h4 => K.uncons l2 fun t6 l7 => K.uncons l7 fun t8 l9 => K.unnil l9 (
K.ltK (K.binV ctx .lss 3 true t8 (.int .i64 (.ofNat 4))) t8 (.int .i64 (.ofNat 4)) fun t10 =>
K.iteV t10 (
K.letK (fun (l11 : List AV) (m12 : List Nat) (h13 : H) => K.uncons l11 fun t15 l16 => K.uncons l16 fun t17 l18 => K.unnil l18 (
K.addK (K.binV ctx .add 3 true t17 (.int .i64 (.ofNat 1))) t17 (.int .i64 (.ofNat 1)) fun t19 =>
s5 [t15, t19] m12 h13)) fun j14 =>
K.loopV (nat_lit 1000000) (fun s23 l20 m21 h22 => K.uncons l20 fun t24 l25 => K.uncons l25 fun t26 l27 => K.uncons l27 fun t28 l29 => K.uncons l29 fun t30 l31 => K.unnil l31 (
K.ltK (K.binV ctx .lss 3 true t30 (.int .i64 (.ofNat 4))) t30 (.int .i64 (.ofNat 4)) fun t32 =>
K.iteV t32 (
K.letK (fun (l33 : List AV) (m34 : List Nat) (h35 : H) => K.uncons l33 fun t37 l38 => K.uncons l38 fun t39 l40 => K.uncons l40 fun t41 l42 => K.uncons l42 fun t43 l44 => K.unnil l44 (
K.addK (K.binV ctx .add 3 true t43 (.int .i64 (.ofNat 1))) t43 (.int .i64 (.ofNat 1)) fun t45 =>
s23 [t37, t39, t41, t45] m34 h35)) fun j36 =>
K.callFK run 45 [t24, t26, t30] h22 fun t46 h47 =>
K.iteV t46 (
j36 [t24, t26, t28, t30] m21 h47) (
K.nilK t24 fun t48 =>
K.fldK 0 t48 fun t49 =>
K.ldK ctx 50 t49 h47 fun t50 =>
K.nilK t24 fun t51 =>
K.fldK 1 t51 fun t52 =>
K.ldsK ctx 25 3 t52 h47 fun t53 =>
K.rK (convA ctx 3 37 t30 h47) fun t54 h55 =>
K.callFK run 47 [t50, t53, t26, t54] h55 fun t56 h57 =>
K.extK t56 0 fun t58 =>
K.extK t56 1 fun t59 =>
K.allocK (K.zN ctx 88) (K.zT ctx 88) h57 fun t60 h61 =>
K.stsK 2 t60 t58 h61 fun h62 =>
K.eqK (K.binV ctx .eql 71 true t59 (.int .i64 (.ofNat 0))) t59 (.int .i64 (.ofNat 0)) fun t63 =>
K.letK (fun (t64 : AV) (h65 : H) => K.letK (fun (t67 : AV) (h68 : H) => K.letK (fun (t70 : AV) (h71 : H) => K.letK (fun (t73 : AV) (h74 : H) => K.pickK t63 t73 (.bool false) fun t76 =>
K.callFK run 36 [t76, (.int .i64 (.ofNat 4)), t26, t30] h74 fun t77 h78 =>
K.fldK 0 t60 fun t79 =>
K.ldK ctx 3 t79 h78 fun t80 =>
K.nilK t24 fun t81 =>
K.fldK 774 t81 fun t82 =>
K.idxAK 64 1 t82 t80 fun t83 =>
K.ldK ctx 37 t83 h78 fun t84 =>
K.addK (K.binV ctx .add 37 true t84 (.int .u64 (.ofNat 1))) t84 (.int .u64 (.ofNat 1)) fun t85 =>
K.nilK t24 fun t86 =>
K.fldK 774 t86 fun t87 =>
K.idxAK 64 1 t87 t80 fun t88 =>
K.stK t88 t85 h78 fun h89 =>
j36 [t24, t26, t28, t30] m21 h89) fun j75 =>
K.guK true t63 (K.callFK run 43 [t64, t70, (.int .u64 (.ofNat 1))] h71 fun t90 h91 =>
j75 t90 h91) (j75 (.tup []) h71)) fun j72 =>
K.guK true t63 (K.ldK ctx 3 t67 h68 fun t92 =>
j72 t92 h68) (j72 (.tup []) h68)) fun j69 =>
K.guK true t63 (K.fldK 0 t60 fun t93 =>
j69 t93 h65) (j69 (.tup []) h65)) fun j66 =>
K.guK true t63 (j66 t24 h62) (j66 (.tup []) h62))) (
j14 [t24, t28] m21 h22))) [t6, t8, t8, (.int .i64 (.ofNat 0))] m3 h4) (
K.unmarkK m3 h4 fun h94 => .ok (.tup []) h94))) [t0, (.int .i64 (.ofNat 0))] [] h)
end YtbigljebnajniaaGreatDoorCnM
