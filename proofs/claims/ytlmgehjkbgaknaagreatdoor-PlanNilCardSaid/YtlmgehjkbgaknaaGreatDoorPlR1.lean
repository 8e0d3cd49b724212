/- PRINTED BY Gen2.lean (own): functions as plain texts, part 1. -/
import Derived.Test.YtlmgehjkbgaknaaGreatDoorPlCtx
namespace YtlmgehjkbgaknaaGreatDoorPlM
open Go Am
set_option maxRecDepth 100000
noncomputable def r55 : K.KRun → List AV → H → K.KR := fun run args h => K.uncons args fun t0 l1 => K.unnil l1 (
K.boxK t0 h fun t2 h3 =>
K.ldsK ctx 23 3 t2 h3 fun t4 =>
K.callFK run 103 [t4, (.int .u8 (.ofNat 6)), (.int .i64 (.ofNat 0))] h3 fun t5 h6 =>
K.unmarkK [] h6 fun h7 => .ok t5 h7)
noncomputable def r56 : K.KRun → List AV → H → K.KR := fun run args h => K.uncons args fun t0 l1 => K.unnil l1 (
K.boxK t0 h fun t2 h3 =>
K.ldsK ctx 23 3 t2 h3 fun t4 =>
K.callFK run 103 [t4, (.int .u8 (.ofNat 7)), (.int .i64 (.ofNat 0))] h3 fun t5 h6 =>
K.unmarkK [] h6 fun h7 => .ok t5 h7)
noncomputable def r57 : K.KRun → List AV → H → K.KR := fun run args h => K.uncons args fun t0 l1 => K.uncons l1 fun t2 l3 => K.unnil l3 (
K.boxK t0 h fun t4 h5 =>
K.ldsK ctx 23 3 t4 h5 fun t6 =>
K.callFK run 103 [t6, (.int .u8 (.ofNat 8)), t2] h5 fun t7 h8 =>
K.unmarkK [] h8 fun h9 => .ok t7 h9)
noncomputable def r61 : K.KRun → List AV → H → K.KR := fun run args h => K.uncons args fun t0 l1 => K.unnil l1 (
K.allocK (K.zN ctx 26) (K.zT ctx 26) h fun t2 h3 =>
K.callFK run 115 [t0] h3 fun t4 h5 =>
K.callFK run 116 [t4] h5 fun t6 h7 =>
K.fldK 0 t2 fun t8 =>
K.stK t8 t6 h7 fun h9 =>
K.fldK 0 t2 fun t10 =>
K.ldK ctx 5 t10 h9 fun t11 =>
K.callFK run 117 [] h9 fun t12 h13 =>
K.ldK ctx 5 t10 h13 fun t14 =>
K.req (AV.same t11 t14) (
K.slowK ctx run (K.opAt Go.Proofs.Tryz.f61 3 3) [14, 16] [t12, t11] h13 fun t15 h16 =>
K.extK t15 0 fun t17 =>
K.extK t15 1 fun t18 =>
K.letK (fun (l19 : List AV) (m20 : List Nat) (h21 : H) => K.uncons l19 fun t23 l24 => K.uncons l24 fun t25 l26 => K.uncons l26 fun t27 l28 => K.unnil l28 (
K.ldsK ctx 26 8 t23 h21 fun t29 =>
K.letK (fun (t30 : AV) (h31 : H) => K.letK (fun (t33 : AV) (h34 : H) => K.pickK t25 t33 (.bool false) fun t36 =>
K.letK (fun (t37 : AV) (h38 : H) => K.letK (fun (t40 : AV) (h41 : H) => K.letK (fun (t43 : AV) (h44 : H) => K.pickK t36 t43 (.bool false) fun t46 =>
K.stsK 8 t23 t29 h44 fun h47 =>
K.unmarkK m20 h47 fun h48 => K.asPtr t23 fun n49 n50 => K.loads h48 n49 n50 8 fun t51 => .ok (.tup [(.agg t51), t46]) h48) fun j45 =>
K.guK true t36 (K.leK (K.binV ctx .leq 5 true t40 (.int .u8 (.ofNat 7))) t40 (.int .u8 (.ofNat 7)) fun t52 =>
j45 t52 h41) (j45 (.tup []) h41)) fun j42 =>
K.guK true t36 (K.ldK ctx 5 t37 h38 fun t53 =>
j42 t53 h38) (j42 (.tup []) h38)) fun j39 =>
K.guK true t36 (K.fldK 1 t23 fun t54 =>
j39 t54 h34) (j39 (.tup []) h34)) fun j35 =>
K.guK true t25 (K.callFK run 118 [t30] h31 fun t55 h56 =>
K.ldsK ctx 26 8 t23 h56 fun t57 =>
K.req (AV.same t29 t57) (
j35 t55 h56)) (j35 (.tup []) h31)) fun j32 =>
K.guK true t25 (j32 t27 h21) (j32 (.tup []) h21))) fun j22 =>
K.lenVK t17 fun t58 =>
K.loopV (nat_lit 1000000) (fun s62 l59 m60 h61 => K.uncons l59 fun t63 l64 => K.uncons l64 fun t65 l66 => K.uncons l66 fun t67 l68 => K.uncons l68 fun t69 l70 => K.uncons l70 fun t71 l72 => K.uncons l72 fun t73 l74 => K.unnil l74 (
K.ltK (K.binV ctx .lss 3 false t73 t71) t73 t71 fun t75 =>
K.iteV t75 (
K.idxSK 2 t69 t73 fun t76 =>
K.ldsK ctx 208 2 t76 h61 fun t77 =>
K.allocK (K.zN ctx 208) (K.zT ctx 208) h61 fun t78 h79 =>
K.stsK 2 t78 t77 h79 fun h80 =>
K.fldK 1 t78 fun t81 =>
K.ldK ctx 206 t81 h80 fun t82 =>
K.callVK run t82 [t67, t63] h80 fun t83 h84 =>
K.addK (K.binV ctx .add 3 true t73 (.int .i64 (.ofNat 1))) t73 (.int .i64 (.ofNat 1)) fun t85 =>
s62 [t63, t65, t67, t69, t71, t85] m60 h84) (
j22 [t63, t65, t67] m60 h61))) [t2, t18, t4, t17, t58, (.int .i64 (.ofNat 0))] [] h16))
noncomputable def r62 : K.KRun → List AV → H → K.KR := fun run args h => K.uncons args fun t0 l1 => K.unnil l1 (
K.boxK t0 h fun t2 h3 =>
K.fldK 0 t2 fun t4 =>
K.ldK ctx 5 t4 h3 fun t5 =>
K.bslK ctx 5 1 1 [(0, t5)] h3 fun t6 h7 =>
K.letK (fun (l8 : List AV) (m9 : List Nat) (h10 : H) => K.uncons l8 fun t12 l13 => K.unnil l13 (
K.unmarkK m9 h10 fun h14 => .ok t12 h14)) fun j11 =>
K.fldK 0 t2 fun t15 =>
K.ldK ctx 5 t15 h7 fun t16 =>
K.callFK run 117 [] h7 fun t17 h18 =>
K.ldK ctx 5 t15 h18 fun t19 =>
K.req (AV.same t16 t19) (
K.slowK ctx run (K.opAt Go.Proofs.Tryz.f62 2 3) [9, 11] [t17, t16] h18 fun t20 h21 =>
K.lenVK t20 fun t22 =>
K.loopV (nat_lit 1000000) (fun s26 l23 m24 h25 => K.uncons l23 fun t27 l28 => K.uncons l28 fun t29 l30 => K.uncons l30 fun t31 l32 => K.uncons l32 fun t33 l34 => K.uncons l34 fun t35 l36 => K.unnil l36 (
K.ltK (K.binV ctx .lss 3 false t35 t33) t35 t33 fun t37 =>
K.iteV t37 (
K.idxSK 2 t31 t35 fun t38 =>
K.ldsK ctx 208 2 t38 h25 fun t39 =>
K.allocK (K.zN ctx 208) (K.zT ctx 208) h25 fun t40 h41 =>
K.stsK 2 t40 t39 h41 fun h42 =>
K.fldK 0 t40 fun t43 =>
K.ldK ctx 205 t43 h42 fun t44 =>
K.ldsK ctx 26 8 t27 h42 fun t45 =>
K.callVK run t44 [t29, t45] h42 fun t46 h47 =>
K.addK (K.binV ctx .add 3 true t35 (.int .i64 (.ofNat 1))) t35 (.int .i64 (.ofNat 1)) fun t48 =>
s26 [t27, t46, t31, t33, t48] m24 h47) (
j11 [t29] m24 h25))) [t2, t6, t20, t22, (.int .i64 (.ofNat 0))] [] h21))
noncomputable def r63 : K.KRun → List AV → H → K.KR := fun run args h => K.uncons args fun t0 l1 => K.uncons l1 fun t2 l3 => K.uncons l3 fun t4 l5 => K.unnil l5 (
K.eqK (K.binV ctx .eql 43 true t0 .nilPtr) t0 .nilPtr fun t6 =>
K.iteV t6 (
K.unmarkK [] h fun h7 => .ok (.int .i64 (.ofNat 2)) h7) (
K.letK (fun (l8 : List AV) (m9 : List Nat) (h10 : H) => K.uncons l8 fun t12 l13 => K.unnil l13 (
K.iteV t12 (
K.unmarkK m9 h10 fun h14 => .ok (.int .i64 (.ofNat 1)) h14) (
K.unmarkK m9 h10 fun h15 => .ok (.int .i64 (.ofNat 0)) h15))) fun j11 =>
K.ltK (K.binV ctx .lss 24 false t2 t4) t2 t4 fun t16 =>
K.iteV t16 (
j11 [t16] [] h) (
K.gtK (K.binV ctx .gtr 24 true t2 (.int .u64 (.ofNat 1099511627776))) t2 (.int .u64 (.ofNat 1099511627776)) fun t17 =>
j11 [t17] [] h)))
noncomputable def r64 : K.KRun → List AV → H → K.KR := fun run args h => K.uncons args fun t0 l1 => K.uncons l1 fun t2 l3 => K.uncons l3 fun t4 l5 => K.unnil l5 (
K.allocK (K.zN ctx 135) (K.zT ctx 135) h fun t6 h7 =>
K.callFK run 71 [t0, t2] h7 fun t8 h9 =>
K.extK t8 0 fun t10 =>
K.extK t8 1 fun t11 =>
K.allocK (K.zN ctx 135) (K.zT ctx 135) h9 fun t12 h13 =>
K.stsK 3 t12 t10 h13 fun h14 =>
K.letK (fun (l15 : List AV) (m16 : List Nat) (h17 : H) => K.uncons l15 fun t19 l20 => K.uncons l20 fun t21 l22 => K.uncons l22 fun t23 l24 => K.unnil l24 (
K.ldsK ctx 135 3 t21 h17 fun t25 =>
K.stsK 3 t19 t25 h17 fun h26 =>
K.unmarkK m16 h26 fun h27 => K.asPtr t19 fun n28 n29 => K.loads h27 n28 n29 3 fun t30 => .ok (.tup [(.agg t30), t23]) h27)) fun j18 =>
K.eqK (K.binV ctx .eql 28 true t11 (.int .i64 (.ofNat 0))) t11 (.int .i64 (.ofNat 0)) fun t31 =>
K.letK (fun (t32 : AV) (h33 : H) => K.letK (fun (t35 : AV) (h36 : H) => K.letK (fun (t38 : AV) (h39 : H) => K.letK (fun (t41 : AV) (h42 : H) => K.letK (fun (t44 : AV) (h45 : H) => K.letK (fun (t47 : AV) (h48 : H) => K.letK (fun (t50 : AV) (h51 : H) => K.letK (fun (t53 : AV) (h54 : H) => K.letK (fun (t56 : AV) (h57 : H) => K.pickK t31 t56 (.bool false) fun t59 =>
K.iteV t59 (
j18 [t6, t12, (.int .i64 (.ofNat 22))] [] h57) (
j18 [t6, t12, t11] [] h57)) fun j58 =>
K.guK true t31 (K.pickK t41 (.bool true) t53 fun t60 =>
j58 t60 h54) (j58 (.tup []) h54)) fun j55 =>
K.guK false t41 (K.neK (K.binV ctx .neq 24 false t47 t50) t47 t50 fun t61 =>
j55 t61 h51) (j55 (.tup []) h51)) fun j52 =>
K.guK false t41 (j52 t4 h48) (j52 (.tup []) h48)) fun j49 =>
K.guK false t41 (K.ldK ctx 24 t44 h45 fun t62 =>
j49 t62 h45) (j49 (.tup []) h45)) fun j46 =>
K.guK false t41 (K.fldK 1 t12 fun t63 =>
j46 t63 h42) (j46 (.tup []) h42)) fun j43 =>
K.guK true t31 (j43 t38 h39) (j43 (.tup []) h39)) fun j40 =>
K.guK true t31 (K.notK t35 fun t64 =>
j40 t64 h36) (j40 (.tup []) h36)) fun j37 =>
K.guK true t31 (K.ldK ctx 4 t32 h33 fun t65 =>
j37 t65 h33) (j37 (.tup []) h33)) fun j34 =>
K.guK true t31 (K.fldK 0 t12 fun t66 =>
j34 t66 h14) (j34 (.tup []) h14))
noncomputable def r65 : K.KRun → List AV → H → K.KR := fun run args h => K.uncons args fun t0 l1 => K.uncons l1 fun t2 l3 => K.uncons l3 fun t4 l5 => K.unnil l5 (
K.allocK (K.zN ctx 30) (K.zT ctx 30) h fun t6 h7 =>
K.callFK run 66 [t0, t2, t4] h7 fun t8 h9 =>
K.extK t8 0 fun t10 =>
K.extK t8 1 fun t11 =>
K.neK (K.binV ctx .neq 28 true t11 (.int .i64 (.ofNat 0))) t11 (.int .i64 (.ofNat 0)) fun t12 =>
K.letK (fun (t13 : AV) (h14 : H) => K.letK (fun (t16 : AV) (h17 : H) => K.letK (fun (t19 : AV) (h20 : H) => K.letK (fun (t22 : AV) (h23 : H) => K.pickK t12 (.bool true) t22 fun t25 =>
K.iteV t25 (
K.bldSK ctx 30 [] fun t26 =>
K.stsK 4 t6 t26 h23 fun h27 =>
K.unmarkK [] h27 fun h28 => K.asPtr t6 fun n29 n30 => K.loads h28 n29 n30 4 fun t31 => .ok (.tup [(.int .u64 (.ofNat 0)), (.agg t31), t11]) h28) (
K.addK (K.binV ctx .add 3 true t10 (.int .i64 (.ofNat 1))) t10 (.int .i64 (.ofNat 1)) fun t32 =>
K.callFK run 119 [t0, t32] h23 fun t33 h34 =>
K.oK (K.binV ctx .rem 24 true t33 (.int .u64 (.ofNat 256))) fun t35 =>
K.addK (K.binV ctx .add 3 true t10 (.int .i64 (.ofNat 1))) t10 (.int .i64 (.ofNat 1)) fun t36 =>
K.callFK run 119 [t0, t36] h34 fun t37 h38 =>
K.oK (K.binV ctx .quo 24 true t37 (.int .u64 (.ofNat 256))) fun t39 =>
K.gtK (K.binV ctx .gtr 24 true t35 (.int .u64 (.ofNat 24))) t35 (.int .u64 (.ofNat 24)) fun t40 =>
K.letK (fun (t41 : AV) (h42 : H) => K.letK (fun (t44 : AV) (h45 : H) => K.pickK t40 (.bool true) t44 fun t47 =>
K.iteV t47 (
K.bldSK ctx 30 [] fun t48 =>
K.stsK 4 t6 t48 h45 fun h49 =>
K.unmarkK [] h49 fun h50 => K.asPtr t6 fun n51 n52 => K.loads h50 n51 n52 4 fun t53 => .ok (.tup [(.int .u64 (.ofNat 0)), (.agg t53), (.int .i64 (.ofNat 4))]) h50) (
K.letK (fun (l54 : List AV) (m55 : List Nat) (h56 : H) => K.uncons l54 fun t58 l59 => K.uncons l59 fun t60 l61 => K.uncons l61 fun t62 l63 => K.uncons l63 fun t64 l65 => K.uncons l65 fun t66 l67 => K.uncons l67 fun t68 l69 => K.unnil l69 (
K.rK (convA ctx 24 3 t66 h56) fun t70 h71 =>
K.callFK run 120 [t68, t70] h71 fun t72 h73 =>
K.extK t72 0 fun t74 =>
K.extK t72 1 fun t75 =>
K.neK (K.binV ctx .neq 28 true t75 (.int .i64 (.ofNat 0))) t75 (.int .i64 (.ofNat 0)) fun t76 =>
K.iteV t76 (
K.bldSK ctx 30 [] fun t77 =>
K.stsK 4 t60 t77 h73 fun h78 =>
K.unmarkK m55 h78 fun h79 => K.asPtr t60 fun n80 n81 => K.loads h79 n80 n81 4 fun t82 => .ok (.tup [(.int .u64 (.ofNat 0)), (.agg t82), t75]) h79) (
K.callFK run 119 [t58, t62] h73 fun t83 h84 =>
K.rK (convA ctx 24 28 t64 h84) fun t85 h86 =>
K.addK (K.binV ctx .add 3 true t62 (.int .i64 (.ofNat 2))) t62 (.int .i64 (.ofNat 2)) fun t87 =>
K.callFK run 119 [t58, t87] h86 fun t88 h89 =>
K.addK (K.binV ctx .add 3 true t62 (.int .i64 (.ofNat 3))) t62 (.int .i64 (.ofNat 3)) fun t90 =>
K.callFK run 119 [t58, t90] h89 fun t91 h92 =>
K.bldSK ctx 30 [(0, t85), (1, t88), (2, t91), (3, t74)] fun t93 =>
K.stsK 4 t60 t93 h92 fun h94 =>
K.unmarkK m55 h94 fun h95 => K.asPtr t60 fun n96 n97 => K.loads h95 n96 n97 4 fun t98 => .ok (.tup [t83, (.agg t98), (.int .i64 (.ofNat 0))]) h95))) fun j57 =>
K.loopV (nat_lit 1000000) (fun s102 l99 m100 h101 => K.uncons l99 fun t103 l104 => K.uncons l104 fun t105 l106 => K.uncons l106 fun t107 l108 => K.uncons l108 fun t109 l110 => K.uncons l110 fun t111 l112 => K.uncons l112 fun t113 l114 => K.uncons l114 fun t115 l116 => K.unnil l116 (
K.ltK (K.binV ctx .lss 3 true t115 (.int .i64 (.ofNat 12))) t115 (.int .i64 (.ofNat 12)) fun t117 =>
K.iteV t117 (
K.addK (K.binV ctx .add 3 false t107 t115) t107 t115 fun t118 =>
K.callFK run 119 [t103, t118] h101 fun t119 h120 =>
K.bslK ctx 24 1 1 [(0, t119)] h120 fun t121 h122 =>
K.appK ctx 24 1 t113 t121 h122 fun t123 h124 =>
K.addK (K.binV ctx .add 3 true t115 (.int .i64 (.ofNat 1))) t115 (.int .i64 (.ofNat 1)) fun t125 =>
s102 [t103, t105, t107, t109, t111, t123, t125] m100 h124) (
j57 [t103, t105, t107, t109, t111, t113] m100 h101))) [t0, t6, t10, t35, t39, .nilSlice, (.int .i64 (.ofNat 4))] [] h45)) fun j46 =>
K.guK false t40 (K.gtK (K.binV ctx .gtr 24 true t41 (.int .u64 (.ofNat 64))) t41 (.int .u64 (.ofNat 64)) fun t126 =>
j46 t126 h42) (j46 (.tup []) h42)) fun j43 =>
K.guK false t40 (j43 t39 h38) (j43 (.tup []) h38))) fun j24 =>
K.guK false t12 (K.eqK (K.binV ctx .eql 24 true t19 (.int .u64 (.ofNat 0))) t19 (.int .u64 (.ofNat 0)) fun t127 =>
j24 t127 h20) (j24 (.tup []) h20)) fun j21 =>
K.guK false t12 (K.callFK run 119 [t13, t16] h17 fun t128 h129 =>
j21 t128 h129) (j21 (.tup []) h17)) fun j18 =>
K.guK false t12 (j18 t10 h14) (j18 (.tup []) h14)) fun j15 =>
K.guK false t12 (j15 t0 h9) (j15 (.tup []) h9))
noncomputable def r66 : K.KRun → List AV → H → K.KR := fun run args h => K.uncons args fun t0 l1 => K.uncons l1 fun t2 l3 => K.uncons l3 fun t4 l5 => K.unnil l5 (
K.callFK run 121 [t2, t4] h fun t6 h7 =>
K.neK (K.binV ctx .neq 43 true t0 .nilPtr) t0 .nilPtr fun t8 =>
K.letK (fun (t9 : AV) (h10 : H) => K.letK (fun (t12 : AV) (h13 : H) => K.pickK t8 t12 (.bool false) fun t15 =>
K.iteV t15 (
K.unmarkK [] h13 fun h16 => .ok (.tup [(.int .i64 (.ofNat 0)), (.int .i64 (.ofNat 1))]) h16) (
K.callFK run 122 [t0, t2] h13 fun t17 h18 =>
K.extK t17 0 fun t19 =>
K.extK t17 1 fun t20 =>
K.unmarkK [] h18 fun h21 => .ok (.tup [t6, t20]) h21)) fun j14 =>
K.guK true t8 (K.ltK (K.binV ctx .lss 3 true t9 (.int .i64 (.ofNat 0))) t9 (.int .i64 (.ofNat 0)) fun t22 =>
j14 t22 h10) (j14 (.tup []) h10)) fun j11 =>
K.guK true t8 (j11 t6 h7) (j11 (.tup []) h7))
noncomputable def r67 : K.KRun → List AV → H → K.KR := fun run args h => K.uncons args fun t0 l1 => K.unnil l1 (
K.boxK t0 h fun t2 h3 =>
K.fldK 0 t2 fun t4 =>
K.ldK ctx 28 t4 h3 fun t5 =>
K.geK (K.binV ctx .geq 28 true t5 (.int .i64 (.ofNat 0))) t5 (.int .i64 (.ofNat 0)) fun t6 =>
K.letK (fun (t7 : AV) (h8 : H) => K.letK (fun (t10 : AV) (h11 : H) => K.letK (fun (t13 : AV) (h14 : H) => K.pickK t6 t13 (.bool false) fun t16 =>
K.letK (fun (t17 : AV) (h18 : H) => K.letK (fun (t20 : AV) (h21 : H) => K.letK (fun (t23 : AV) (h24 : H) => K.letK (fun (t26 : AV) (h27 : H) => K.pickK t16 t26 (.bool false) fun t29 =>
K.unmarkK [] h27 fun h30 => .ok t29 h30) fun j28 =>
K.guK true t16 (K.leK (K.binV ctx .leq 3 true t23 (.int .i64 (.ofNat 64))) t23 (.int .i64 (.ofNat 64)) fun t31 =>
j28 t31 h24) (j28 (.tup []) h24)) fun j25 =>
K.guK true t16 (K.lenTK t20 fun t32 =>
j25 t32 h21) (j25 (.tup []) h21)) fun j22 =>
K.guK true t16 (K.ldK ctx 9 t17 h18 fun t33 =>
j22 t33 h18) (j22 (.tup []) h18)) fun j19 =>
K.guK true t16 (K.fldK 3 t2 fun t34 =>
j19 t34 h14) (j19 (.tup []) h14)) fun j15 =>
K.guK true t6 (K.leK (K.binV ctx .leq 28 true t10 (.int .i64 (.ofNat 24))) t10 (.int .i64 (.ofNat 24)) fun t35 =>
j15 t35 h11) (j15 (.tup []) h11)) fun j12 =>
K.guK true t6 (K.ldK ctx 28 t7 h8 fun t36 =>
j12 t36 h8) (j12 (.tup []) h8)) fun j9 =>
K.guK true t6 (K.fldK 0 t2 fun t37 =>
j9 t37 h3) (j9 (.tup []) h3))
noncomputable def r68 : K.KRun → List AV → H → K.KR := fun run args h => K.uncons args fun t0 l1 => K.uncons l1 fun t2 l3 => K.unnil l3 (
K.boxK t0 h fun t4 h5 =>
K.boxK t2 h5 fun t6 h7 =>
K.unmarkK [] h7 fun h8 => .ok (.func (.func 123) [] [t4, t6]) h8)
noncomputable def r69 : K.KRun → List AV → H → K.KR := fun run args h => K.uncons args fun t0 l1 => K.unnil l1 (
K.allocK (K.zN ctx 39) (K.zT ctx 39) h fun t2 h3 =>
K.letK (fun (l4 : List AV) (m5 : List Nat) (h6 : H) => K.uncons l4 fun t8 l9 => K.unnil l9 (
K.ldK ctx 39 t8 h6 fun t10 =>
K.stK t8 t10 h6 fun h11 =>
K.unmarkK m5 h11 fun h12 => K.asPtr t8 fun n13 n14 => K.load1 h12 n13 n14 fun t15 => .ok t15 h12)) fun j7 =>
K.rK (convA ctx 9 131 t0 h3) fun t16 h17 =>
K.callFK run 125 [t16, (.int .i64 (.ofNat 8))] h17 fun t18 h19 =>
K.hNew h19 .marks fun r20 h21 => K.hNew h21 (.loop .ready none (K.mkT [2, 9] [t2, t18]) 2 r20) fun n22 h23 =>
K.rngK ctx run t18 n22 h23 (fun h25 => j7 [t2] (r20 :: []) h25) (fun h26 => K.unmarkK (r20 :: []) h26 fun h29 => K.asPtr t2 fun n30 n31 => K.load1 h29 n30 n31 fun t32 => .ok t32 h29) fun i24 h27 => (Bool.rec (motive := fun _ => K.KR) (.bad) (j7 [t2] (r20 :: []) h27) (Nat.beq i24 0)))
noncomputable def r70 : K.KRun → List AV → H → K.KR := fun run args h => K.uncons args fun t0 l1 => K.uncons l1 fun t2 l3 => K.unnil l3 (
K.letK (fun (l4 : List AV) (m5 : List Nat) (h6 : H) => K.unnil l4 (
K.unmarkK m5 h6 fun h8 => .ok (.int .i64 (.ofNat 0)) h8)) fun j7 =>
K.lenVK t2 fun t9 =>
K.loopV (nat_lit 1000000) (fun s13 l10 m11 h12 => K.uncons l10 fun t14 l15 => K.uncons l15 fun t16 l17 => K.uncons l17 fun t18 l19 => K.uncons l19 fun t20 l21 => K.unnil l21 (
K.ltK (K.binV ctx .lss 3 false t20 t18) t20 t18 fun t22 =>
K.iteV t22 (
K.idxSK 1 t16 t20 fun t23 =>
K.ldK ctx 144 t23 h12 fun t24 =>
K.callVK run t24 [t14] h12 fun t25 h26 =>
K.neK (K.binV ctx .neq 28 true t25 (.int .i64 (.ofNat 0))) t25 (.int .i64 (.ofNat 0)) fun t27 =>
K.iteV t27 (
K.unmarkK m11 h26 fun h28 => .ok t25 h28) (
K.addK (K.binV ctx .add 3 true t20 (.int .i64 (.ofNat 1))) t20 (.int .i64 (.ofNat 1)) fun t29 =>
s13 [t14, t16, t18, t29] m11 h26)) (
j7 [] m11 h12))) [t0, t2, t9, (.int .i64 (.ofNat 0))] [] h)
noncomputable def r71 : K.KRun → List AV → H → K.KR := fun run args h => K.uncons args fun t0 l1 => K.uncons l1 fun t2 l3 => K.unnil l3 (
K.allocK (K.zN ctx 135) (K.zT ctx 135) h fun t4 h5 =>
K.callFK run 122 [t0, t2] h5 fun t6 h7 =>
K.extK t6 0 fun t8 =>
K.extK t6 1 fun t9 =>
K.neK (K.binV ctx .neq 28 true t9 (.int .i64 (.ofNat 0))) t9 (.int .i64 (.ofNat 0)) fun t10 =>
K.iteV t10 (
K.bldSK ctx 135 [] fun t11 =>
K.stsK 3 t4 t11 h7 fun h12 =>
K.unmarkK [] h12 fun h13 => K.asPtr t4 fun n14 n15 => K.loads h13 n14 n15 3 fun t16 => .ok (.tup [(.agg t16), t9]) h13) (
K.callFK run 119 [t0, t8] h7 fun t17 h18 =>
K.gtK (K.binV ctx .gtr 24 true t17 (.int .u64 (.ofNat 1))) t17 (.int .u64 (.ofNat 1)) fun t19 =>
K.iteV t19 (
K.bldSK ctx 135 [] fun t20 =>
K.stsK 3 t4 t20 h18 fun h21 =>
K.unmarkK [] h21 fun h22 => K.asPtr t4 fun n23 n24 => K.loads h22 n23 n24 3 fun t25 => .ok (.tup [(.agg t25), (.int .i64 (.ofNat 4))]) h22) (
K.eqK (K.binV ctx .eql 24 true t17 (.int .u64 (.ofNat 1))) t17 (.int .u64 (.ofNat 1)) fun t26 =>
K.addK (K.binV ctx .add 3 true t8 (.int .i64 (.ofNat 1))) t8 (.int .i64 (.ofNat 1)) fun t27 =>
K.callFK run 119 [t0, t27] h18 fun t28 h29 =>
K.addK (K.binV ctx .add 3 true t8 (.int .i64 (.ofNat 2))) t8 (.int .i64 (.ofNat 2)) fun t30 =>
K.callFK run 119 [t0, t30] h29 fun t31 h32 =>
K.bldSK ctx 135 [(0, t26), (1, t28), (2, t31)] fun t33 =>
K.stsK 3 t4 t33 h32 fun h34 =>
K.unmarkK [] h34 fun h35 => K.asPtr t4 fun n36 n37 => K.loads h35 n36 n37 3 fun t38 => .ok (.tup [(.agg t38), (.int .i64 (.ofNat 0))]) h35)))
noncomputable def r72 : K.KRun → List AV → H → K.KR := fun run args h => K.uncons args fun t0 l1 => K.uncons l1 fun t2 l3 => K.uncons l3 fun t4 l5 => K.unnil l5 (
K.boxK t4 h fun t6 h7 =>
K.callFK run 122 [t0, t2] h7 fun t8 h9 =>
K.extK t8 0 fun t10 =>
K.extK t8 1 fun t11 =>
K.neK (K.binV ctx .neq 28 true t11 (.int .i64 (.ofNat 0))) t11 (.int .i64 (.ofNat 0)) fun t12 =>
K.iteV t12 (
K.unmarkK [] h9 fun h13 => .ok t11 h13) (
K.letK (fun (l14 : List AV) (m15 : List Nat) (h16 : H) => K.uncons l14 fun t18 l19 => K.uncons l19 fun t20 l21 => K.uncons l21 fun t22 l23 => K.uncons l23 fun t24 l25 => K.unnil l25 (
K.addK (K.binV ctx .add 3 true t22 (.int .i64 (.ofNat 1))) t22 (.int .i64 (.ofNat 1)) fun t26 =>
K.fldK 1 t20 fun t27 =>
K.ldK ctx 24 t27 h16 fun t28 =>
K.addK (K.binV ctx .add 3 true t22 (.int .i64 (.ofNat 2))) t22 (.int .i64 (.ofNat 2)) fun t29 =>
K.fldK 2 t20 fun t30 =>
K.ldK ctx 24 t30 h16 fun t31 =>
K.callFK run 68 [t22, t24] h16 fun t32 h33 =>
K.ldK ctx 24 t30 h33 fun t34 =>
K.req (AV.same t31 t34) (
K.ldK ctx 24 t27 h33 fun t35 =>
K.req (AV.same t28 t35) (
K.callFK run 68 [t26, t28] h33 fun t36 h37 =>
K.ldK ctx 24 t30 h37 fun t38 =>
K.req (AV.same t31 t38) (
K.callFK run 68 [t29, t31] h37 fun t39 h40 =>
K.bslK ctx 144 1 3 [(0, t32), (1, t36), (2, t39)] h40 fun t41 h42 =>
K.callFK run 70 [t18, t41] h42 fun t43 h44 =>
K.unmarkK m15 h44 fun h45 => .ok t43 h45))))) fun j17 =>
K.fldK 0 t6 fun t46 =>
K.ldK ctx 4 t46 h9 fun t47 =>
K.iteV t47 (
j17 [t0, t6, t10, (.int .u64 (.ofNat 1))] [] h9) (
j17 [t0, t6, t10, (.int .u64 (.ofNat 0))] [] h9)))
noncomputable def r74 : K.KRun → List AV → H → K.KR := fun run args h => K.uncons args fun t0 l1 => K.uncons l1 fun t2 l3 => K.uncons l3 fun t4 l5 => K.unnil l5 (
K.boxK t2 h fun t6 h7 =>
K.eqK (K.binV ctx .eql 43 true t0 .nilPtr) t0 .nilPtr fun t8 =>
K.iteV t8 (
K.unmarkK [] h7 fun h9 => .ok (.int .i64 (.ofNat 2)) h9) (
K.letK (fun (l10 : List AV) (m11 : List Nat) (h12 : H) => K.uncons l10 fun t14 l15 => K.uncons l15 fun t16 l17 => K.uncons l17 fun t18 l19 => K.unnil l19 (
K.iteV t18 (
K.unmarkK m11 h12 fun h20 => .ok (.int .i64 (.ofNat 1)) h20) (
K.ldsK ctx 23 3 t16 h12 fun t21 =>
K.callFK run 79 [t14] h12 fun t22 h23 =>
K.ldsK ctx 23 3 t16 h23 fun t24 =>
K.req (AV.same t21 t24) (
K.callFK run 54 [t21] h23 fun t25 h26 =>
K.ltK (K.binV ctx .lss 3 false t22 t25) t22 t25 fun t27 =>
K.iteV t27 (
K.unmarkK m11 h26 fun h28 => .ok (.int .i64 (.ofNat 8)) h28) (
K.unmarkK m11 h26 fun h29 => .ok (.int .i64 (.ofNat 0)) h29))))) fun j13 =>
K.ldsK ctx 23 3 t6 h7 fun t30 =>
K.callFK run 53 [t30] h7 fun t31 h32 =>
K.notK t31 fun t33 =>
K.iteV t33 (
j13 [t0, t6, t33] [] h32) (
K.callFK run 78 [t4] h32 fun t34 h35 =>
K.ltK (K.binV ctx .lss 3 true t34 (.int .i64 (.ofNat 0))) t34 (.int .i64 (.ofNat 0)) fun t36 =>
j13 [t0, t6, t36] [] h35)))
noncomputable def r75 : K.KRun → List AV → H → K.KR := fun run args h => K.uncons args fun t0 l1 => K.uncons l1 fun t2 l3 => K.unnil l3 (
K.boxK t0 h fun t4 h5 =>
K.boxK t2 h5 fun t6 h7 =>
K.unmarkK [] h7 fun h8 => .ok (.func (.func 128) [] [t4, t6]) h8)
noncomputable def r77 : K.KRun → List AV → H → K.KR := fun run args h => K.uncons args fun t0 l1 => K.unnil l1 (
K.boxK t0 h fun t2 h3 =>
K.fldK 0 t2 fun t4 =>
K.ldK ctx 3 t4 h3 fun t5 =>
K.mulK (K.binV ctx .mul 3 true (.int .i64 (.ofNat 208)) t5) (.int .i64 (.ofNat 208)) t5 fun t6 =>
K.callFK run 133 [] h3 fun t7 h8 =>
K.ldK ctx 3 t4 h8 fun t9 =>
K.req (AV.same t5 t9) (
K.addK (K.binV ctx .add 3 false t7 t6) t7 t6 fun t10 =>
K.unmarkK [] h8 fun h11 => .ok t10 h11))
noncomputable def r78 : K.KRun → List AV → H → K.KR := fun run args h => K.uncons args fun t0 l1 => K.unnil l1 (
K.ldsK ctx 23 3 (.gptr 1 0) h fun t2 =>
K.callFK run 103 [t2, (.int .u8 (.ofNat 2)), t0] h fun t3 h4 =>
K.unmarkK [] h4 fun h5 => .ok t3 h5)
noncomputable def r79 : K.KRun → List AV → H → K.KR := fun run args h => K.uncons args fun t0 l1 => K.unnil l1 (
K.eqK (K.binV ctx .eql 43 true t0 .nilPtr) t0 .nilPtr fun t2 =>
K.iteV t2 (
K.unmarkK [] h fun h3 => .ok (.int .i64 (.ofNat 0)) h3) (
K.nilK t0 fun t4 =>
K.fldK 0 t4 fun t5 =>
K.ldK ctx 39 t5 h fun t6 =>
K.lenVK t6 fun t7 =>
K.unmarkK [] h fun h8 => .ok t7 h8))
noncomputable def r80 : K.KRun → List AV → H → K.KR := fun run args h => K.uncons args fun t0 l1 => K.uncons l1 fun t2 l3 => K.unnil l3 (
K.boxK t0 h fun t4 h5 =>
K.boxK t2 h5 fun t6 h7 =>
K.allocK (K.zN ctx 30) (K.zT ctx 30) h7 fun t8 h9 =>
K.fldK 0 t4 fun t10 =>
K.ldK ctx 43 t10 h9 fun t11 =>
K.fldK 1 t4 fun t12 =>
K.ldsK ctx 23 3 t12 h9 fun t13 =>
K.fldK 5 t6 fun t14 =>
K.ldK ctx 9 t14 h9 fun t15 =>
K.callFK run 134 [t11, t13, t15] h9 fun t16 h17 =>
K.extK t16 0 fun t18 =>
K.extK t16 1 fun t19 =>
K.letK (fun (l20 : List AV) (m21 : List Nat) (h22 : H) => K.uncons l20 fun t24 l25 => K.uncons l25 fun t26 l27 => K.uncons l27 fun t28 l29 => K.uncons l29 fun t30 l31 => K.uncons l31 fun t32 l33 => K.unnil l33 (
K.neK (K.binV ctx .neq 28 true t32 (.int .i64 (.ofNat 0))) t32 (.int .i64 (.ofNat 0)) fun t34 =>
K.iteV t34 (
K.ldsK ctx 30 4 (.gptr 0 0) h22 fun t35 =>
K.stsK 4 t28 t35 h22 fun h36 =>
K.unmarkK m21 h36 fun h37 => K.asPtr t28 fun n38 n39 => K.loads h37 n38 n39 4 fun t40 => .ok (.tup [(.agg t40), t32]) h37) (
K.fldK 0 t24 fun t41 =>
K.ldK ctx 43 t41 h22 fun t42 =>
K.fldK 1 t24 fun t43 =>
K.ldsK ctx 23 3 t43 h22 fun t44 =>
K.callFK run 130 [t42, t44, t30] h22 fun t45 h46 =>
K.extK t45 0 fun t47 =>
K.extK t45 1 fun t48 =>
K.allocK (K.zN ctx 230) (K.zT ctx 230) h46 fun t49 h50 =>
K.stsK 10 t49 t47 h50 fun h51 =>
K.letK (fun (l52 : List AV) (m53 : List Nat) (h54 : H) => K.uncons l52 fun t56 l57 => K.uncons l57 fun t58 l59 => K.uncons l59 fun t60 l61 => K.uncons l61 fun t62 l63 => K.uncons l63 fun t64 l65 => K.unnil l65 (
K.letK (fun (l66 : List AV) (m67 : List Nat) (h68 : H) => K.uncons l66 fun t70 l71 => K.uncons l71 fun t72 l73 => K.uncons l73 fun t74 l75 => K.uncons l75 fun t76 l77 => K.unnil l77 (
K.neK (K.binV ctx .neq 28 true t76 (.int .i64 (.ofNat 0))) t76 (.int .i64 (.ofNat 0)) fun t78 =>
K.iteV t78 (
K.ldsK ctx 30 4 (.gptr 0 0) h68 fun t79 =>
K.stsK 4 t72 t79 h68 fun h80 =>
K.unmarkK m67 h80 fun h81 => K.asPtr t72 fun n82 n83 => K.loads h81 n82 n83 4 fun t84 => .ok (.tup [(.agg t84), t76]) h81) (
K.fldK 0 t70 fun t85 =>
K.ldK ctx 43 t85 h68 fun t86 =>
K.fldK 1 t70 fun t87 =>
K.ldsK ctx 23 3 t87 h68 fun t88 =>
K.fldK 4 t70 fun t89 =>
K.ldK ctx 3 t89 h68 fun t90 =>
K.callFK run 137 [t86, t88, t90, t74] h68 fun t91 h92 =>
K.extK t91 0 fun t93 =>
K.extK t91 1 fun t94 =>
K.rK (convA ctx 3 24 t93 h92) fun t95 h96 =>
K.rK (convA ctx 3 24 t74 h96) fun t97 h98 =>
K.bldSK ctx 30 [(1, t95), (2, t97)] fun t99 =>
K.stsK 4 t72 t99 h98 fun h100 =>
K.unmarkK m67 h100 fun h101 => K.asPtr t72 fun n102 n103 => K.loads h101 n102 n103 4 fun t104 => .ok (.tup [(.agg t104), t94]) h101))) fun j69 =>
K.eqK (K.binV ctx .eql 28 true t64 (.int .i64 (.ofNat 0))) t64 (.int .i64 (.ofNat 0)) fun t105 =>
K.letK (fun (t106 : AV) (h107 : H) => K.letK (fun (t109 : AV) (h110 : H) => K.letK (fun (t112 : AV) (h113 : H) => K.letK (fun (t115 : AV) (h116 : H) => K.pickK t105 t115 (.bool false) fun t118 =>
K.iteV t118 (
K.fldK 0 t56 fun t119 =>
K.ldK ctx 43 t119 h116 fun t120 =>
K.fldK 1 t56 fun t121 =>
K.ldsK ctx 23 3 t121 h116 fun t122 =>
K.callFK run 136 [t120, t122, t62, (.int .u64 (.ofNat 0))] h116 fun t123 h124 =>
j69 [t56, t60, t62, t123] m53 h124) (
j69 [t56, t60, t62, t64] m53 h116)) fun j117 =>
K.guK true t105 (K.neK (K.binV ctx .neq 5 true t112 (.int .u8 (.ofNat 0))) t112 (.int .u8 (.ofNat 0)) fun t125 =>
j117 t125 h113) (j117 (.tup []) h113)) fun j114 =>
K.guK true t105 (K.oK (K.binV ctx .and 5 true t109 (.int .u8 (.ofNat 4))) fun t126 =>
j114 t126 h110) (j114 (.tup []) h110)) fun j111 =>
K.guK true t105 (K.ldK ctx 5 t106 h107 fun t127 =>
j111 t127 h107) (j111 (.tup []) h107)) fun j108 =>
K.guK true t105 (K.fldK 1 t58 fun t128 =>
j108 t128 h54) (j108 (.tup []) h54))) fun j55 =>
K.eqK (K.binV ctx .eql 28 true t48 (.int .i64 (.ofNat 0))) t48 (.int .i64 (.ofNat 0)) fun t129 =>
K.letK (fun (t130 : AV) (h131 : H) => K.letK (fun (t133 : AV) (h134 : H) => K.letK (fun (t136 : AV) (h137 : H) => K.pickK t129 t136 (.bool false) fun t139 =>
K.iteV t139 (
j55 [t24, t26, t28, t30, (.int .i64 (.ofNat 11))] m21 h137) (
j55 [t24, t26, t28, t30, t48] m21 h137)) fun j138 =>
K.guK true t129 (K.eqK (K.binV ctx .eql 24 true t133 (.int .u64 (.ofNat 2))) t133 (.int .u64 (.ofNat 2)) fun t140 =>
j138 t140 h134) (j138 (.tup []) h134)) fun j135 =>
K.guK true t129 (K.ldK ctx 24 t130 h131 fun t141 =>
j135 t141 h131) (j135 (.tup []) h131)) fun j132 =>
K.guK true t129 (K.fldK 0 t49 fun t142 =>
j132 t142 h51) (j132 (.tup []) h51)))) fun j23 =>
K.eqK (K.binV ctx .eql 28 true t19 (.int .i64 (.ofNat 0))) t19 (.int .i64 (.ofNat 0)) fun t143 =>
K.letK (fun (t144 : AV) (h145 : H) => K.letK (fun (t147 : AV) (h148 : H) => K.letK (fun (t150 : AV) (h151 : H) => K.letK (fun (t153 : AV) (h154 : H) => K.pickK t143 t153 (.bool false) fun t156 =>
K.iteV t156 (
j23 [t4, t6, t8, t18, (.int .i64 (.ofNat 9))] [] h154) (
K.eqK (K.binV ctx .eql 28 true t19 (.int .i64 (.ofNat 6))) t19 (.int .i64 (.ofNat 6)) fun t157 =>
K.letK (fun (t158 : AV) (h159 : H) => K.letK (fun (t161 : AV) (h162 : H) => K.letK (fun (t164 : AV) (h165 : H) => K.letK (fun (t167 : AV) (h168 : H) => K.pickK t157 t167 (.bool false) fun t170 =>
K.iteV t170 (
K.fldK 0 t4 fun t171 =>
K.ldK ctx 43 t171 h168 fun t172 =>
K.fldK 1 t4 fun t173 =>
K.ldsK ctx 23 3 t173 h168 fun t174 =>
K.fldK 5 t6 fun t175 =>
K.ldK ctx 9 t175 h168 fun t176 =>
K.callFK run 135 [t172, t174, t176, (.int .u64 (.ofNat 1))] h168 fun t177 h178 =>
K.extK t177 0 fun t179 =>
K.extK t177 1 fun t180 =>
j23 [t4, t6, t8, t179, t180] [] h178) (
j23 [t4, t6, t8, t18, t19] [] h168)) fun j169 =>
K.guK true t157 (K.neK (K.binV ctx .neq 5 true t164 (.int .u8 (.ofNat 0))) t164 (.int .u8 (.ofNat 0)) fun t181 =>
j169 t181 h165) (j169 (.tup []) h165)) fun j166 =>
K.guK true t157 (K.oK (K.binV ctx .and 5 true t161 (.int .u8 (.ofNat 1))) fun t182 =>
j166 t182 h162) (j166 (.tup []) h162)) fun j163 =>
K.guK true t157 (K.ldK ctx 5 t158 h159 fun t183 =>
j163 t183 h159) (j163 (.tup []) h159)) fun j160 =>
K.guK true t157 (K.fldK 1 t6 fun t184 =>
j160 t184 h154) (j160 (.tup []) h154))) fun j155 =>
K.guK true t143 (K.neK (K.binV ctx .neq 5 true t150 (.int .u8 (.ofNat 0))) t150 (.int .u8 (.ofNat 0)) fun t185 =>
j155 t185 h151) (j155 (.tup []) h151)) fun j152 =>
K.guK true t143 (K.oK (K.binV ctx .and 5 true t147 (.int .u8 (.ofNat 2))) fun t186 =>
j152 t186 h148) (j152 (.tup []) h148)) fun j149 =>
K.guK true t143 (K.ldK ctx 5 t144 h145 fun t187 =>
j149 t187 h145) (j149 (.tup []) h145)) fun j146 =>
K.guK true t143 (K.fldK 1 t6 fun t188 =>
j146 t188 h17) (j146 (.tup []) h17))
noncomputable def r87 : K.KRun → List AV → H → K.KR := fun run args h => K.uncons args fun t0 l1 => K.uncons l1 fun t2 l3 => K.unnil l3 (
K.boxK t0 h fun t4 h5 =>
K.boxK t2 h5 fun t6 h7 =>
K.allocK (K.zN ctx 30) (K.zT ctx 30) h7 fun t8 h9 =>
K.fldK 0 t4 fun t10 =>
K.ldK ctx 43 t10 h9 fun t11 =>
K.fldK 1 t4 fun t12 =>
K.ldsK ctx 23 3 t12 h9 fun t13 =>
K.fldK 5 t6 fun t14 =>
K.ldK ctx 9 t14 h9 fun t15 =>
K.callFK run 135 [t11, t13, t15, (.int .u64 (.ofNat 2))] h9 fun t16 h17 =>
K.extK t16 0 fun t18 =>
K.extK t16 1 fun t19 =>
K.rK (convA ctx 3 24 t18 h17) fun t20 h21 =>
K.bldSK ctx 30 [(1, t20)] fun t22 =>
K.stsK 4 t8 t22 h21 fun h23 =>
K.unmarkK [] h23 fun h24 => K.asPtr t8 fun n25 n26 => K.loads h24 n25 n26 4 fun t27 => .ok (.tup [(.agg t27), t19]) h24)
noncomputable def r101 : K.KRun → List AV → H → K.KR := fun run args h => K.uncons args fun t0 l1 => K.uncons l1 fun t2 l3 => K.uncons l3 fun t4 l5 => K.unnil l5 (
K.geK (K.binV ctx .geq 3 false t0 t2) t0 t2 fun t6 =>
K.letK (fun (t7 : AV) (h8 : H) => K.letK (fun (t10 : AV) (h11 : H) => K.letK (fun (t13 : AV) (h14 : H) => K.pickK t6 t13 (.bool false) fun t16 =>
K.unmarkK [] h14 fun h17 => .ok t16 h17) fun j15 =>
K.guK true t6 (K.leK (K.binV ctx .leq 3 false t7 t10) t7 t10 fun t18 =>
j15 t18 h11) (j15 (.tup []) h11)) fun j12 =>
K.guK true t6 (j12 t4 h8) (j12 (.tup []) h8)) fun j9 =>
K.guK true t6 (j9 t0 h) (j9 (.tup []) h))
noncomputable def r102 : K.KRun → List AV → H → K.KR := fun run args h => K.uncons args fun t0 l1 => K.unnil l1 (
K.boxK t0 h fun t2 h3 =>
K.allocK (K.zN ctx 180) (K.zT ctx 180) h3 fun t4 h5 =>
K.bldSK ctx 179 [(0, (.int .u8 (.ofNat 1))), (1, (.int .i64 (.ofNat 8))), (2, (.int .i64 (.ofNat 1)))] fun t6 =>
K.bldSK ctx 179 [(0, (.int .u8 (.ofNat 2))), (1, (.int .i64 (.ofNat 64))), (2, (.int .i64 (.ofNat 4)))] fun t7 =>
K.fldK 0 t2 fun t8 =>
K.ldK ctx 3 t8 h5 fun t9 =>
K.bldSK ctx 179 [(0, (.int .u8 (.ofNat 5))), (1, (.int .i64 (.ofNat 208))), (2, t9)] fun t10 =>
K.bldSK ctx 179 [(0, (.int .u8 (.ofNat 6))), (1, (.int .i64 (.ofNat 8))), (2, (.int .i64 (.ofNat 1)))] fun t11 =>
K.bldSK ctx 179 [(0, (.int .u8 (.ofNat 7))), (1, (.int .i64 (.ofNat 8))), (2, (.int .i64 (.ofNat 1)))] fun t12 =>
K.fldK 1 t2 fun t13 =>
K.ldK ctx 3 t13 h5 fun t14 =>
K.bldSK ctx 179 [(0, (.int .u8 (.ofNat 8))), (1, (.int .i64 (.ofNat 16))), (2, t14)] fun t15 =>
K.fldK 2 t2 fun t16 =>
K.ldK ctx 3 t16 h5 fun t17 =>
K.bldSK ctx 179 [(0, (.int .u8 (.ofNat 9))), (1, (.int .i64 (.ofNat 8))), (2, t17)] fun t18 =>
K.bldAK ctx 180 3 [(0, t6), (1, t7), (2, t10), (3, t11), (4, t12), (5, t15), (6, t18)] fun t19 =>
K.stsK 21 t4 t19 h5 fun h20 =>
K.unmarkK [] h20 fun h21 => K.asPtr t4 fun n22 n23 => K.loads h21 n22 n23 21 fun t24 => .ok (.agg t24) h21)
noncomputable def r103 : K.KRun → List AV → H → K.KR := fun run args h => K.uncons args fun t0 l1 => K.uncons l1 fun t2 l3 => K.uncons l3 fun t4 l5 => K.unnil l5 (
K.boxK t0 h fun t6 h7 =>
K.letK (fun (l8 : List AV) (m9 : List Nat) (h10 : H) => K.unnil l8 (
K.unmarkK m9 h10 fun h12 => .ok (.int .i64 (.negSucc 0)) h12)) fun j11 =>
K.ldsK ctx 23 3 t6 h7 fun t13 =>
K.callFK run 102 [t13] h7 fun t14 h15 =>
K.loopV (nat_lit 1000000) (fun s19 l16 m17 h18 => K.uncons l16 fun t20 l21 => K.uncons l21 fun t22 l23 => K.uncons l23 fun t24 l25 => K.uncons l25 fun t26 l27 => K.uncons l27 fun t28 l29 => K.uncons l29 fun t30 l31 => K.unnil l31 (
K.ltK (K.binV ctx .lss 3 true t30 (.int .i64 (.ofNat 7))) t30 (.int .i64 (.ofNat 7)) fun t32 =>
K.iteV t32 (
K.idxK ctx 179 3 7 t28 t30 fun t33 =>
K.allocK (K.zN ctx 179) (K.zT ctx 179) h18 fun t34 h35 =>
K.stsK 3 t34 t33 h35 fun h36 =>
K.fldK 0 t34 fun t37 =>
K.ldK ctx 177 t37 h36 fun t38 =>
K.neK (K.binV ctx .neq 177 false t38 t20) t38 t20 fun t39 =>
K.iteV t39 (
K.fldK 1 t34 fun t40 =>
K.ldK ctx 3 t40 h36 fun t41 =>
K.fldK 2 t34 fun t42 =>
K.ldK ctx 3 t42 h36 fun t43 =>
K.mulK (K.binV ctx .mul 3 false t41 t43) t41 t43 fun t44 =>
K.addK (K.binV ctx .add 3 false t26 t44) t26 t44 fun t45 =>
K.addK (K.binV ctx .add 3 true t30 (.int .i64 (.ofNat 1))) t30 (.int .i64 (.ofNat 1)) fun t46 =>
s19 [t20, t22, t24, t45, t28, t46] m17 h36) (
K.ldsK ctx 23 3 t24 h36 fun t47 =>
K.callFK run 53 [t47] h36 fun t48 h49 =>
K.letK (fun (t50 : AV) (h51 : H) => K.letK (fun (t53 : AV) (h54 : H) => K.letK (fun (t56 : AV) (h57 : H) => K.letK (fun (t59 : AV) (h60 : H) => K.letK (fun (t62 : AV) (h63 : H) => K.pickK t48 t62 (.bool false) fun t65 =>
K.iteV t65 (
K.fldK 1 t34 fun t66 =>
K.ldK ctx 3 t66 h63 fun t67 =>
K.mulK (K.binV ctx .mul 3 false t67 t22) t67 t22 fun t68 =>
K.addK (K.binV ctx .add 3 false t26 t68) t26 t68 fun t69 =>
K.unmarkK m17 h63 fun h70 => .ok t69 h70) (
j11 [] m17 h63)) fun j64 =>
K.guK true t48 (K.callFK run 101 [t50, (.int .i64 (.ofNat 0)), t59] h60 fun t71 h72 =>
j64 t71 h72) (j64 (.tup []) h60)) fun j61 =>
K.guK true t48 (K.subK (K.binV ctx .sub 3 true t56 (.int .i64 (.ofNat 1))) t56 (.int .i64 (.ofNat 1)) fun t73 =>
j61 t73 h57) (j61 (.tup []) h57)) fun j58 =>
K.guK true t48 (K.ldK ctx 3 t53 h54 fun t74 =>
j58 t74 h54) (j58 (.tup []) h54)) fun j55 =>
K.guK true t48 (K.fldK 2 t34 fun t75 =>
j55 t75 h51) (j55 (.tup []) h51)) fun j52 =>
K.guK true t48 (j52 t22 h49) (j52 (.tup []) h49))) (
j11 [] m17 h18))) [t2, t4, t6, (.int .i64 (.ofNat 0)), t14, (.int .i64 (.ofNat 0))] [] h15)
noncomputable def r115 : K.KRun → List AV → H → K.KR := fun run args h => K.uncons args fun t0 l1 => K.unnil l1 (
K.callFK run 175 [t0] h fun t2 h3 =>
K.bldSK ctx 280 [(0, t2)] fun t4 =>
K.boxK t4 h3 fun t5 h6 =>
K.unmarkK [] h6 fun h7 => .ok t5 h7)
noncomputable def r116 : K.KRun → List AV → H → K.KR := fun run args h => K.uncons args fun t0 l1 => K.unnil l1 (
K.callFK run 176 [t0, (.func (.func 177) [] [])] h fun t2 h3 =>
K.unmarkK [] h3 fun h4 => .ok t2 h4)
noncomputable def r117 : K.KRun → List AV → H → K.KR := fun run args h => K.unnil args (
K.callFK run 178 [(.int .i64 (.ofNat 200)), (.func (.func 179) [] [])] h fun t0 h1 =>
K.allocK (K.zN ctx 208) (K.zT ctx 208) h1 fun t2 h3 =>
K.stsK 2 t2 t0 h3 fun h4 =>
K.callFK run 178 [(.int .i64 (.ofNat 200)), (.func (.func 180) [] [])] h4 fun t5 h6 =>
K.allocK (K.zN ctx 208) (K.zT ctx 208) h6 fun t7 h8 =>
K.stsK 2 t7 t5 h8 fun h9 =>
K.callFK run 178 [(.int .i64 (.ofNat 128)), (.func (.func 181) [] [])] h9 fun t10 h11 =>
K.allocK (K.zN ctx 208) (K.zT ctx 208) h11 fun t12 h13 =>
K.stsK 2 t12 t10 h13 fun h14 =>
K.callFK run 182 [(.func (.func 183) [] [])] h14 fun t15 h16 =>
K.allocK (K.zN ctx 208) (K.zT ctx 208) h16 fun t17 h18 =>
K.stsK 2 t17 t15 h18 fun h19 =>
K.callFK run 182 [(.func (.func 184) [] [])] h19 fun t20 h21 =>
K.allocK (K.zN ctx 208) (K.zT ctx 208) h21 fun t22 h23 =>
K.stsK 2 t22 t20 h23 fun h24 =>
K.callFK run 182 [(.func (.func 185) [] [])] h24 fun t25 h26 =>
K.allocK (K.zN ctx 208) (K.zT ctx 208) h26 fun t27 h28 =>
K.stsK 2 t27 t25 h28 fun h29 =>
K.bldSK ctx 208 [(0, (.func (.func 186) [] [])), (1, (.func (.func 188) [] []))] fun t30 =>
K.allocK (K.zN ctx 208) (K.zT ctx 208) h29 fun t31 h32 =>
K.stsK 2 t31 t30 h32 fun h33 =>
K.slowK ctx run (K.opAt Go.Proofs.Tryz.f117 8 0) [] [] h33 fun t34 h35 =>
K.ldsK ctx 208 2 t2 h35 fun t36 =>
K.ldsK ctx 208 2 t31 h35 fun t37 =>
K.bslK ctx 208 2 2 [(0, t36), (1, t37)] h35 fun t38 h39 =>
K.slowK ctx run (K.opAt Go.Proofs.Tryz.f117 8 4) [15, 18] [t34, t38] h39 fun t40 h41 =>
K.ldsK ctx 208 2 t17 h41 fun t42 =>
K.bslK ctx 208 2 1 [(0, t42)] h41 fun t43 h44 =>
K.slowK ctx run (K.opAt Go.Proofs.Tryz.f117 8 7) [15, 20] [t34, t43] h44 fun t45 h46 =>
K.ldsK ctx 208 2 t17 h46 fun t47 =>
K.ldsK ctx 208 2 t27 h46 fun t48 =>
K.bslK ctx 208 2 2 [(0, t47), (1, t48)] h46 fun t49 h50 =>
K.slowK ctx run (K.opAt Go.Proofs.Tryz.f117 8 11) [15, 23] [t34, t49] h50 fun t51 h52 =>
K.ldsK ctx 208 2 t17 h52 fun t53 =>
K.ldsK ctx 208 2 t12 h52 fun t54 =>
K.bslK ctx 208 2 2 [(0, t53), (1, t54)] h52 fun t55 h56 =>
K.slowK ctx run (K.opAt Go.Proofs.Tryz.f117 8 15) [15, 26] [t34, t55] h56 fun t57 h58 =>
K.ldsK ctx 208 2 t17 h58 fun t59 =>
K.ldsK ctx 208 2 t22 h58 fun t60 =>
K.bslK ctx 208 2 2 [(0, t59), (1, t60)] h58 fun t61 h62 =>
K.slowK ctx run (K.opAt Go.Proofs.Tryz.f117 8 19) [15, 29] [t34, t61] h62 fun t63 h64 =>
K.ldsK ctx 208 2 t17 h64 fun t65 =>
K.ldsK ctx 208 2 t22 h64 fun t66 =>
K.bslK ctx 208 2 2 [(0, t65), (1, t66)] h64 fun t67 h68 =>
K.slowK ctx run (K.opAt Go.Proofs.Tryz.f117 8 23) [15, 32] [t34, t67] h68 fun t69 h70 =>
K.ldsK ctx 208 2 t2 h70 fun t71 =>
K.ldsK ctx 208 2 t22 h70 fun t72 =>
K.bslK ctx 208 2 2 [(0, t71), (1, t72)] h70 fun t73 h74 =>
K.slowK ctx run (K.opAt Go.Proofs.Tryz.f117 8 27) [15, 35] [t34, t73] h74 fun t75 h76 =>
K.ldsK ctx 208 2 t2 h76 fun t77 =>
K.bslK ctx 208 2 1 [(0, t77)] h76 fun t78 h79 =>
K.slowK ctx run (K.opAt Go.Proofs.Tryz.f117 8 30) [15, 37] [t34, t78] h79 fun t80 h81 =>
K.ldsK ctx 208 2 t2 h81 fun t82 =>
K.bslK ctx 208 2 1 [(0, t82)] h81 fun t83 h84 =>
K.slowK ctx run (K.opAt Go.Proofs.Tryz.f117 8 33) [15, 39] [t34, t83] h84 fun t85 h86 =>
K.ldsK ctx 208 2 t2 h86 fun t87 =>
K.bslK ctx 208 2 1 [(0, t87)] h86 fun t88 h89 =>
K.slowK ctx run (K.opAt Go.Proofs.Tryz.f117 8 36) [15, 41] [t34, t88] h89 fun t90 h91 =>
K.ldsK ctx 208 2 t2 h91 fun t92 =>
K.bslK ctx 208 2 1 [(0, t92)] h91 fun t93 h94 =>
K.slowK ctx run (K.opAt Go.Proofs.Tryz.f117 8 39) [15, 43] [t34, t93] h94 fun t95 h96 =>
K.ldsK ctx 208 2 t2 h96 fun t97 =>
K.ldsK ctx 208 2 t7 h96 fun t98 =>
K.bslK ctx 208 2 2 [(0, t97), (1, t98)] h96 fun t99 h100 =>
K.slowK ctx run (K.opAt Go.Proofs.Tryz.f117 8 43) [15, 46] [t34, t99] h100 fun t101 h102 =>
K.ldsK ctx 208 2 t2 h102 fun t103 =>
K.ldsK ctx 208 2 t7 h102 fun t104 =>
K.bslK ctx 208 2 2 [(0, t103), (1, t104)] h102 fun t105 h106 =>
K.slowK ctx run (K.opAt Go.Proofs.Tryz.f117 8 47) [15, 49] [t34, t105] h106 fun t107 h108 =>
K.unmarkK [] h108 fun h109 => .ok t34 h109)
noncomputable def r118 : K.KRun → List AV → H → K.KR := fun run args h => K.uncons args fun t0 l1 => K.unnil l1 (
K.neK (K.binV ctx .neq 198 true t0 .nilPtr) t0 .nilPtr fun t2 =>
K.letK (fun (t3 : AV) (h4 : H) => K.letK (fun (t6 : AV) (h7 : H) => K.letK (fun (t9 : AV) (h10 : H) => K.letK (fun (t12 : AV) (h13 : H) => K.letK (fun (t15 : AV) (h16 : H) => K.pickK t2 t15 (.bool false) fun t18 =>
K.letK (fun (t19 : AV) (h20 : H) => K.letK (fun (t22 : AV) (h23 : H) => K.letK (fun (t25 : AV) (h26 : H) => K.letK (fun (t28 : AV) (h29 : H) => K.letK (fun (t31 : AV) (h32 : H) => K.letK (fun (t34 : AV) (h35 : H) => K.pickK t18 t34 (.bool false) fun t37 =>
K.unmarkK [] h35 fun h38 => .ok t37 h38) fun j36 =>
K.guK true t18 (K.eqK (K.binV ctx .eql 3 true t31 (.int .i64 (.ofNat 0))) t31 (.int .i64 (.ofNat 0)) fun t39 =>
j36 t39 h32) (j36 (.tup []) h32)) fun j33 =>
K.guK true t18 (K.lenVK t28 fun t40 =>
j33 t40 h29) (j33 (.tup []) h29)) fun j30 =>
K.guK true t18 (K.ldK ctx 131 t25 h26 fun t41 =>
j30 t41 h26) (j30 (.tup []) h26)) fun j27 =>
K.guK true t18 (K.fldK 0 t22 fun t42 =>
j27 t42 h23) (j27 (.tup []) h23)) fun j24 =>
K.guK true t18 (K.nilK t19 fun t43 =>
j24 t43 h20) (j24 (.tup []) h20)) fun j21 =>
K.guK true t18 (j21 t0 h16) (j21 (.tup []) h16)) fun j17 =>
K.guK true t2 (K.notK t12 fun t44 =>
j17 t44 h13) (j17 (.tup []) h13)) fun j14 =>
K.guK true t2 (K.ldK ctx 4 t9 h10 fun t45 =>
j14 t45 h10) (j14 (.tup []) h10)) fun j11 =>
K.guK true t2 (K.fldK 1 t6 fun t46 =>
j11 t46 h7) (j11 (.tup []) h7)) fun j8 =>
K.guK true t2 (K.nilK t3 fun t47 =>
j8 t47 h4) (j8 (.tup []) h4)) fun j5 =>
K.guK true t2 (j5 t0 h) (j5 (.tup []) h))
noncomputable def r119 : K.KRun → List AV → H → K.KR := fun run args h => K.uncons args fun t0 l1 => K.uncons l1 fun t2 l3 => K.unnil l3 (
K.callFK run 190 [t0, t2] h fun t4 h5 =>
K.notK t4 fun t6 =>
K.iteV t6 (
K.unmarkK [] h5 fun h7 => .ok (.int .u64 (.ofNat 0)) h7) (
K.nilK t0 fun t8 =>
K.fldK 1 t8 fun t9 =>
K.ldK ctx 99 t9 h5 fun t10 =>
K.slowK ctx run (K.opAt Go.Proofs.Tryz.f119 3 5) [15, 16] [t10, t2] h5 fun t11 h12 =>
K.extK t11 0 fun t13 =>
K.extK t11 1 fun t14 =>
K.iteV t14 (
K.unmarkK [] h12 fun h15 => .ok t13 h15) (
K.nilK t0 fun t16 =>
K.fldK 0 t16 fun t17 =>
K.ldK ctx 39 t17 h12 fun t18 =>
K.idxSK 1 t18 t2 fun t19 =>
K.ldK ctx 24 t19 h12 fun t20 =>
K.unmarkK [] h12 fun h21 => .ok t20 h21)))
noncomputable def r120 : K.KRun → List AV → H → K.KR := fun run args h => K.uncons args fun t0 l1 => K.uncons l1 fun t2 l3 => K.unnil l3 (
K.ltK (K.binV ctx .lss 3 true t2 (.int .i64 (.ofNat 0))) t2 (.int .i64 (.ofNat 0)) fun t4 =>
K.letK (fun (t5 : AV) (h6 : H) => K.letK (fun (t8 : AV) (h9 : H) => K.letK (fun (t11 : AV) (h12 : H) => K.letK (fun (t14 : AV) (h15 : H) => K.letK (fun (t17 : AV) (h18 : H) => K.pickK t4 (.bool true) t17 fun t20 =>
K.iteV t20 (
K.unmarkK [] h18 fun h21 => .ok (.tup [(.str []), (.int .i64 (.ofNat 1))]) h21) (
K.mslK ctx 5 1 t2 t2 h18 fun t22 h23 =>
K.letK (fun (l24 : List AV) (m25 : List Nat) (h26 : H) => K.uncons l24 fun t28 l29 => K.unnil l29 (
K.rK (convA ctx 131 9 t28 h26) fun t30 h31 =>
K.unmarkK m25 h31 fun h32 => .ok (.tup [t30, (.int .i64 (.ofNat 0))]) h32)) fun j27 =>
K.lenVK t22 fun t33 =>
K.loopV (nat_lit 1000000) (fun s37 l34 m35 h36 => K.uncons l34 fun t38 l39 => K.uncons l39 fun t40 l41 => K.uncons l41 fun t42 l43 => K.uncons l43 fun t44 l45 => K.unnil l45 (
K.ltK (K.binV ctx .lss 3 false t44 t42) t44 t42 fun t46 =>
K.iteV t46 (
K.oK (K.binV ctx .quo 3 true t44 (.int .i64 (.ofNat 8))) fun t47 =>
K.idxSK 1 t38 t47 fun t48 =>
K.ldK ctx 24 t48 h36 fun t49 =>
K.oK (K.binV ctx .rem 3 true t44 (.int .i64 (.ofNat 8))) fun t50 =>
K.mulK (K.binV ctx .mul 3 true (.int .i64 (.ofNat 8)) t50) (.int .i64 (.ofNat 8)) t50 fun t51 =>
K.oK (K.binV ctx .shr 24 false t49 t51) fun t52 =>
K.rK (convA ctx 24 5 t52 h36) fun t53 h54 =>
K.idxSK 1 t40 t44 fun t55 =>
K.stK t55 t53 h54 fun h56 =>
K.addK (K.binV ctx .add 3 true t44 (.int .i64 (.ofNat 1))) t44 (.int .i64 (.ofNat 1)) fun t57 =>
s37 [t38, t40, t42, t57] m35 h56) (
j27 [t40] m35 h36))) [t0, t22, t33, (.int .i64 (.ofNat 0))] [] h23)) fun j19 =>
K.guK false t4 (K.gtK (K.binV ctx .gtr 3 false t5 t14) t5 t14 fun t58 =>
j19 t58 h15) (j19 (.tup []) h15)) fun j16 =>
K.guK false t4 (K.mulK (K.binV ctx .mul 3 true (.int .i64 (.ofNat 8)) t11) (.int .i64 (.ofNat 8)) t11 fun t59 =>
j16 t59 h12) (j16 (.tup []) h12)) fun j13 =>
K.guK false t4 (K.lenVK t8 fun t60 =>
j13 t60 h9) (j13 (.tup []) h9)) fun j10 =>
K.guK false t4 (j10 t0 h6) (j10 (.tup []) h6)) fun j7 =>
K.guK false t4 (j7 t2 h) (j7 (.tup []) h))
noncomputable def r121 : K.KRun → List AV → H → K.KR := fun run args h => K.uncons args fun t0 l1 => K.uncons l1 fun t2 l3 => K.unnil l3 (
K.callFK run 191 [t0, t2, (.int .i64 (.ofNat 4)), (.int .i64 (.ofNat 8)), (.int .i64 (.ofNat 12))] h fun t4 h5 =>
K.unmarkK [] h5 fun h6 => .ok t4 h6)
noncomputable def r122 : K.KRun → List AV → H → K.KR := fun run args h => K.uncons args fun t0 l1 => K.uncons l1 fun t2 l3 => K.unnil l3 (
K.callFK run 78 [t2] h fun t4 h5 =>
K.eqK (K.binV ctx .eql 43 true t0 .nilPtr) t0 .nilPtr fun t6 =>
K.iteV t6 (
K.unmarkK [] h5 fun h7 => .ok (.tup [(.int .i64 (.ofNat 0)), (.int .i64 (.ofNat 2))]) h7) (
K.ltK (K.binV ctx .lss 3 true t4 (.int .i64 (.ofNat 0))) t4 (.int .i64 (.ofNat 0)) fun t8 =>
K.iteV t8 (
K.unmarkK [] h5 fun h9 => .ok (.tup [(.int .i64 (.ofNat 0)), (.int .i64 (.ofNat 1))]) h9) (
K.callFK run 79 [t0] h5 fun t10 h11 =>
K.addK (K.binV ctx .add 3 true t4 (.int .i64 (.ofNat 64))) t4 (.int .i64 (.ofNat 64)) fun t12 =>
K.ltK (K.binV ctx .lss 3 false t10 t12) t10 t12 fun t13 =>
K.iteV t13 (
K.unmarkK [] h11 fun h14 => .ok (.tup [(.int .i64 (.ofNat 0)), (.int .i64 (.ofNat 8))]) h14) (
K.unmarkK [] h11 fun h15 => .ok (.tup [t4, (.int .i64 (.ofNat 0))]) h15))))
noncomputable def r123 : K.KRun → List AV → H → K.KR := fun run args h => K.uncons args fun t0 l1 => K.uncons l1 fun t2 l3 => K.uncons l3 fun t4 l5 => K.unnil l5 (
K.ldK ctx 3 t2 h fun t6 =>
K.ldK ctx 24 t4 h fun t7 =>
K.callFK run 124 [t0, t6, t7] h fun t8 h9 =>
K.unmarkK [] h9 fun h10 => .ok t8 h10)
end YtlmgehjkbgaknaaGreatDoorPlM
