/- PRINTED BY Gen2.lean (own): functions as plain texts, part 0. -/
import Derived.Test.YtlmgehjkbgaknaaGreatDoorWkCtx
namespace YtlmgehjkbgaknaaGreatDoorWkM
open Go Am
set_option maxRecDepth 100000
noncomputable def r6 : K.KRun → List AV → H → K.KR := fun run args h => K.uncons args fun t0 l1 => K.uncons l1 fun t2 l3 => K.uncons l3 fun t4 l5 => K.unnil l5 (
K.callFK run 26 [t0] h fun t6 h7 =>
K.extK t6 0 fun t8 =>
K.extK t6 1 fun t9 =>
K.allocK (K.zN ctx 23) (K.zT ctx 23) h7 fun t10 h11 =>
K.stsK 3 t10 t8 h11 fun h12 =>
K.notK t9 fun t13 =>
K.iteV t13 (
K.unmarkK [] h12 fun h14 => .ok (.tup [(.int .u8 (.ofNat 0)), .nilSlice, (.int .i64 (.ofNat 4))]) h14) (
K.callFK run 12 [t0] h12 fun t15 h16 =>
K.callFK run 32 [t15, t2, t4] h16 fun t17 h18 =>
K.extK t17 0 fun t19 =>
K.extK t17 1 fun t20 =>
K.callFK run 33 [t15, t19, t20] h18 fun t21 h22 =>
K.extK t21 0 fun t23 =>
K.extK t21 1 fun t24 =>
K.extK t21 2 fun t25 =>
K.unmarkK [] h22 fun h26 => .ok (.tup [t23, t24, t25]) h26))
noncomputable def r9 : K.KRun → List AV → H → K.KR := fun run args h => K.uncons args fun t0 l1 => K.unnil l1 (
K.allocK (K.zN ctx 23) (K.zT ctx 23) h fun t2 h3 =>
K.oK (K.binV ctx .rem 5 true t0 (.int .u8 (.ofNat 39))) fun t4 =>
K.addK (K.binV ctx .add 5 true (.int .u8 (.ofNat 20)) t4) (.int .u8 (.ofNat 20)) t4 fun t5 =>
K.callFK run 37 [(.int .u8 (.ofNat 9)), t5] h3 fun t6 h7 =>
K.stsK 3 t2 t6 h7 fun h8 =>
K.unmarkK [] h8 fun h9 => K.asPtr t2 fun n10 n11 => K.loads h9 n10 n11 3 fun t12 => .ok (.agg t12) h9)
noncomputable def r10 : K.KRun → List AV → H → K.KR := fun run args h => K.uncons args fun t0 l1 => K.unnil l1 (
K.boxK t0 h fun t2 h3 =>
K.ldsK ctx 41 3 t2 h3 fun t4 =>
K.callFK run 38 [t4] h3 fun t5 h6 =>
K.notK t5 fun t7 =>
K.iteV t7 (
K.unmarkK [] h6 fun h8 => .ok .nilSlice h8) (
K.ldsK ctx 41 3 t2 h6 fun t9 =>
K.callFK run 39 [t9] h6 fun t10 h11 =>
K.mslK ctx 24 1 t10 t10 h11 fun t12 h13 =>
K.idxSK 1 t12 (.int .i64 (.ofNat 0)) fun t14 =>
K.stK t14 (.int .u64 (.ofNat 32762617960297063)) h13 fun h15 =>
K.fldK 0 t2 fun t16 =>
K.ldK ctx 3 t16 h15 fun t17 =>
K.rK (convA ctx 3 24 t17 h15) fun t18 h19 =>
K.idxSK 1 t12 (.int .i64 (.ofNat 1)) fun t20 =>
K.stK t20 t18 h19 fun h21 =>
K.fldK 1 t2 fun t22 =>
K.ldK ctx 3 t22 h21 fun t23 =>
K.rK (convA ctx 3 24 t23 h21) fun t24 h25 =>
K.idxSK 1 t12 (.int .i64 (.ofNat 2)) fun t26 =>
K.stK t26 t24 h25 fun h27 =>
K.fldK 2 t2 fun t28 =>
K.ldK ctx 3 t28 h27 fun t29 =>
K.rK (convA ctx 3 24 t29 h27) fun t30 h31 =>
K.idxSK 1 t12 (.int .i64 (.ofNat 3)) fun t32 =>
K.stK t32 t30 h31 fun h33 =>
K.ldsK ctx 41 3 t2 h33 fun t34 =>
K.callFK run 40 [t34] h33 fun t35 h36 =>
K.idxSK 1 t12 t35 fun t37 =>
K.stK t37 (.int .u64 (.ofNat 3)) h36 fun h38 =>
K.ldsK ctx 41 3 t2 h38 fun t39 =>
K.callFK run 41 [t39] h38 fun t40 h41 =>
K.idxSK 1 t12 t40 fun t42 =>
K.stK t42 (.int .u64 (.ofNat 1)) h41 fun h43 =>
K.ldsK ctx 41 3 t2 h43 fun t44 =>
K.callFK run 42 [t44, (.int .i64 (.ofNat 1))] h43 fun t45 h46 =>
K.idxSK 1 t12 t45 fun t47 =>
K.stK t47 (.int .u64 (.ofNat 2)) h46 fun h48 =>
K.ldsK ctx 41 3 t2 h48 fun t49 =>
K.callFK run 42 [t49, (.int .i64 (.ofNat 1))] h48 fun t50 h51 =>
K.addK (K.binV ctx .add 3 true t50 (.int .i64 (.ofNat 1))) t50 (.int .i64 (.ofNat 1)) fun t52 =>
K.idxSK 1 t12 t52 fun t53 =>
K.stK t53 (.int .u64 (.ofNat 1)) h51 fun h54 =>
K.unmarkK [] h54 fun h55 => .ok t12 h55))
noncomputable def r12 : K.KRun → List AV → H → K.KR := fun run args h => K.uncons args fun t0 l1 => K.unnil l1 (
K.callFK run 45 [t0] h fun t2 h3 =>
K.slowK ctx run (K.opAt Go.Proofs.Tryz.f12 1 2) [] [] h3 fun t4 h5 =>
K.bldSK ctx 101 [(0, t2), (1, t4)] fun t6 =>
K.boxK t6 h5 fun t7 h8 =>
K.unmarkK [] h8 fun h9 => .ok t7 h9)
noncomputable def r14 : K.KRun → List AV → H → K.KR := fun run args h => K.uncons args fun t0 l1 => K.uncons l1 fun t2 l3 => K.uncons l3 fun t4 l5 => K.uncons l5 fun t6 l7 => K.unnil l7 (
K.boxK t2 h fun t8 h9 =>
K.eqK (K.binV ctx .eql 61 true t0 .nilPtr) t0 .nilPtr fun t10 =>
K.letK (fun (t11 : AV) (h12 : H) => K.letK (fun (t14 : AV) (h15 : H) => K.pickK t10 (.bool true) t14 fun t17 =>
K.iteV t17 (
K.unmarkK [] h15 fun h18 => .ok (.tup [.nilPtr, (.int .i64 (.ofNat 2))]) h18) (
K.ldsK ctx 23 3 t8 h15 fun t19 =>
K.callFK run 48 [t0, t19, t6] h15 fun t20 h21 =>
K.extK t20 0 fun t22 =>
K.extK t20 1 fun t23 =>
K.neK (K.binV ctx .neq 28 true t23 (.int .i64 (.ofNat 0))) t23 (.int .i64 (.ofNat 0)) fun t24 =>
K.iteV t24 (
K.unmarkK [] h21 fun h25 => .ok (.tup [.nilPtr, t23]) h25) (
K.bldSK ctx 111 [(0, t0), (1, t4), (2, t6), (3, t22)] fun t26 =>
K.boxK t26 h21 fun t27 h28 =>
K.unmarkK [] h28 fun h29 => .ok (.tup [t27, (.int .i64 (.ofNat 0))]) h29))) fun j16 =>
K.guK false t10 (K.eqK (K.binV ctx .eql 64 true t11 .nilPtr) t11 .nilPtr fun t30 =>
j16 t30 h12) (j16 (.tup []) h12)) fun j13 =>
K.guK false t10 (j13 t4 h9) (j13 (.tup []) h9))
noncomputable def r15 : K.KRun → List AV → H → K.KR := fun run args h => K.uncons args fun t0 l1 => K.unnil l1 (
K.eqK (K.binV ctx .eql 50 true t0 .nilPtr) t0 .nilPtr fun t2 =>
K.iteV t2 (
K.unmarkK [] h fun h3 => .ok (.tup [(.int .u8 (.ofNat 0)), (.int .i64 (.ofNat 2))]) h3) (
K.nilK t0 fun t4 =>
K.fldK 16 t4 fun t5 =>
K.ldK ctx 109 t5 h fun t6 =>
K.eqK (K.binV ctx .eql 109 true t6 .nilFunc) t6 .nilFunc fun t7 =>
K.iteV t7 (
K.unmarkK [] h fun h8 => .ok (.tup [(.int .u8 (.ofNat 0)), (.int .i64 (.ofNat 3))]) h8) (
K.nilK t0 fun t9 =>
K.fldK 1 t9 fun t10 =>
K.ldK ctx 64 t10 h fun t11 =>
K.nilK t0 fun t12 =>
K.fldK 2 t12 fun t13 =>
K.ldK ctx 3 t13 h fun t14 =>
K.callFK run 49 [t11, t14] h fun t15 h16 =>
K.extK t15 0 fun t17 =>
K.extK t15 1 fun t18 =>
K.iteV t18 (
K.unmarkK [] h16 fun h19 => .ok (.tup [(.int .u8 (.ofNat 2)), (.int .i64 (.ofNat 0))]) h19) (
K.nilK t0 fun t20 =>
K.fldK 16 t20 fun t21 =>
K.ldK ctx 109 t21 h16 fun t22 =>
K.callVK run t22 [] h16 fun t23 h24 =>
K.unmarkK [] h24 fun h25 => .ok (.tup [t23, (.int .i64 (.ofNat 0))]) h25))))
noncomputable def r16 : K.KRun → List AV → H → K.KR := fun run args h => K.uncons args fun t0 l1 => K.unnil l1 (
K.allocK (K.zN ctx 57) (K.zT ctx 57) h fun t2 h3 =>
K.eqK (K.binV ctx .eql 50 true t0 .nilPtr) t0 .nilPtr fun t4 =>
K.letK (fun (t5 : AV) (h6 : H) => K.letK (fun (t8 : AV) (h9 : H) => K.letK (fun (t11 : AV) (h12 : H) => K.letK (fun (t14 : AV) (h15 : H) => K.letK (fun (t17 : AV) (h18 : H) => K.pickK t4 (.bool true) t17 fun t20 =>
K.iteV t20 (
K.bldSK ctx 57 [] fun t21 =>
K.stsK 7 t2 t21 h18 fun h22 =>
K.unmarkK [] h22 fun h23 => K.asPtr t2 fun n24 n25 => K.loads h23 n24 n25 7 fun t26 => .ok (.tup [(.agg t26), (.bool false)]) h23) (
K.nilK t0 fun t27 =>
K.fldK 24 t27 fun t28 =>
K.stK t28 (.bool false) h18 fun h29 =>
K.nilK t0 fun t30 =>
K.fldK 17 t30 fun t31 =>
K.ldsK ctx 57 7 t31 h29 fun t32 =>
K.stsK 7 t2 t32 h29 fun h33 =>
K.unmarkK [] h33 fun h34 => K.asPtr t2 fun n35 n36 => K.loads h34 n35 n36 7 fun t37 => .ok (.tup [(.agg t37), (.bool true)]) h34)) fun j19 =>
K.guK false t4 (K.notK t14 fun t38 =>
j19 t38 h15) (j19 (.tup []) h15)) fun j16 =>
K.guK false t4 (K.ldK ctx 4 t11 h12 fun t39 =>
j16 t39 h12) (j16 (.tup []) h12)) fun j13 =>
K.guK false t4 (K.fldK 24 t8 fun t40 =>
j13 t40 h9) (j13 (.tup []) h9)) fun j10 =>
K.guK false t4 (K.nilK t5 fun t41 =>
j10 t41 h6) (j10 (.tup []) h6)) fun j7 =>
K.guK false t4 (j7 t0 h3) (j7 (.tup []) h3))
noncomputable def r17 : K.KRun → List AV → H → K.KR := fun run args h => K.uncons args fun t0 l1 => K.uncons l1 fun t2 l3 => K.unnil l3 (
K.allocK (K.zN ctx 23) (K.zT ctx 23) h fun t4 h5 =>
K.callFK run 9 [t2] h5 fun t6 h7 =>
K.allocK (K.zN ctx 23) (K.zT ctx 23) h7 fun t8 h9 =>
K.stsK 3 t8 t6 h9 fun h10 =>
K.rK (convA ctx 5 3 t0 h10) fun t11 h12 =>
K.oK (K.binV ctx .rem 3 true t11 (.int .i64 (.ofNat 4))) fun t13 =>
K.addK (K.binV ctx .add 3 true (.int .i64 (.ofNat 1)) t13) (.int .i64 (.ofNat 1)) t13 fun t14 =>
K.fldK 0 t8 fun t15 =>
K.stK t15 t14 h12 fun h16 =>
K.ldsK ctx 23 3 t8 h16 fun t17 =>
K.stsK 3 t4 t17 h16 fun h18 =>
K.unmarkK [] h18 fun h19 => K.asPtr t4 fun n20 n21 => K.loads h19 n20 n21 3 fun t22 => .ok (.agg t22) h19)
noncomputable def r19 : K.KRun → List AV → H → K.KR := fun run args h => K.uncons args fun t0 l1 => K.unnil l1 (
K.boxK t0 h fun t2 h3 =>
K.ldsK ctx 23 3 t2 h3 fun t4 =>
K.callFK run 53 [t4] h3 fun t5 h6 =>
K.notK t5 fun t7 =>
K.iteV t7 (
K.unmarkK [] h6 fun h8 => .ok .nilSlice h8) (
K.ldsK ctx 23 3 t2 h6 fun t9 =>
K.callFK run 54 [t9] h6 fun t10 h11 =>
K.mslK ctx 24 1 t10 t10 h11 fun t12 h13 =>
K.fldK 0 t2 fun t14 =>
K.ldK ctx 3 t14 h13 fun t15 =>
K.rK (convA ctx 3 24 t15 h13) fun t16 h17 =>
K.fldK 1 t2 fun t18 =>
K.ldK ctx 3 t18 h17 fun t19 =>
K.rK (convA ctx 3 24 t19 h17) fun t20 h21 =>
K.fldK 2 t2 fun t22 =>
K.ldK ctx 3 t22 h21 fun t23 =>
K.rK (convA ctx 3 24 t23 h21) fun t24 h25 =>
K.bslK ctx 24 1 4 [(0, (.int .u64 (.ofNat 32762617960297063))), (1, t16), (2, t20), (3, t24)] h25 fun t26 h27 =>
K.slowK ctx run (K.opAt Go.Proofs.Tryz.f19 4 11) [10, 20] [t12, t26] h27 fun t28 h29 =>
K.ldsK ctx 23 3 t2 h29 fun t30 =>
K.callFK run 55 [t30] h29 fun t31 h32 =>
K.idxSK 1 t12 t31 fun t33 =>
K.stK t33 (.int .u64 (.ofNat 3)) h32 fun h34 =>
K.ldsK ctx 23 3 t2 h34 fun t35 =>
K.callFK run 56 [t35] h34 fun t36 h37 =>
K.idxSK 1 t12 t36 fun t38 =>
K.stK t38 (.int .u64 (.ofNat 1)) h37 fun h39 =>
K.ldsK ctx 23 3 t2 h39 fun t40 =>
K.callFK run 57 [t40, (.int .i64 (.ofNat 1))] h39 fun t41 h42 =>
K.slcK ctx 39 t12 (some t41) none none h42 fun t43 =>
K.bslK ctx 24 1 2 [(0, (.int .u64 (.ofNat 2))), (1, (.int .u64 (.ofNat 1)))] h42 fun t44 h45 =>
K.slowK ctx run (K.opAt Go.Proofs.Tryz.f19 7 5) [33, 34] [t43, t44] h45 fun t46 h47 =>
K.unmarkK [] h47 fun h48 => .ok t12 h48))
noncomputable def r20 : K.KRun → List AV → H → K.KR := fun run args h => K.uncons args fun t0 l1 => K.unnil l1 (
K.ltK (K.binV ctx .lss 3 true t0 (.int .i64 (.ofNat 1))) t0 (.int .i64 (.ofNat 1)) fun t2 =>
K.letK (fun (t3 : AV) (h4 : H) => K.letK (fun (t6 : AV) (h7 : H) => K.pickK t2 (.bool true) t6 fun t9 =>
K.iteV t9 (
K.unmarkK [] h7 fun h10 => .ok (.tup [.nilPtr, (.int .i64 (.ofNat 1))]) h10) (
K.bldSK ctx 125 [(0, t0)] fun t11 =>
K.boxK t11 h7 fun t12 h13 =>
K.unmarkK [] h13 fun h14 => .ok (.tup [t12, (.int .i64 (.ofNat 0))]) h14)) fun j8 =>
K.guK false t2 (K.gtK (K.binV ctx .gtr 3 true t3 (.int .i64 (.ofNat 4))) t3 (.int .i64 (.ofNat 4)) fun t15 =>
j8 t15 h4) (j8 (.tup []) h4)) fun j5 =>
K.guK false t2 (j5 t0 h) (j5 (.tup []) h))
noncomputable def r21 : K.KRun → List AV → H → K.KR := fun run args h => K.uncons args fun t0 l1 => K.uncons l1 fun t2 l3 => K.unnil l3 (
K.boxK t2 h fun t4 h5 =>
K.ldsK ctx 49 12 t4 h5 fun t6 =>
K.callFK run 58 [t6] h5 fun t7 h8 =>
K.notK t7 fun t9 =>
K.iteV t9 (
K.unmarkK [] h8 fun h10 => .ok (.tup [.nilSlice, (.int .i64 (.ofNat 1))]) h10) (
K.callFK run 26 [t0] h8 fun t11 h12 =>
K.extK t11 0 fun t13 =>
K.extK t11 1 fun t14 =>
K.allocK (K.zN ctx 23) (K.zT ctx 23) h12 fun t15 h16 =>
K.stsK 3 t15 t13 h16 fun h17 =>
K.notK t14 fun t18 =>
K.iteV t18 (
K.unmarkK [] h17 fun h19 => .ok (.tup [.nilSlice, (.int .i64 (.ofNat 4))]) h19) (
K.ldsK ctx 49 12 t4 h17 fun t20 =>
K.callFK run 59 [t0, t20] h17 fun t21 h22 =>
K.unmarkK [] h22 fun h23 => .ok (.tup [t21, (.int .i64 (.ofNat 0))]) h23)))
noncomputable def r22 : K.KRun → List AV → H → K.KR := fun run args h => K.uncons args fun t0 l1 => K.uncons l1 fun t2 l3 => K.unnil l3 (
K.boxK t2 h fun t4 h5 =>
K.allocK (K.zN ctx 57) (K.zT ctx 57) h5 fun t6 h7 =>
K.ldsK ctx 49 12 t4 h7 fun t8 =>
K.callFK run 58 [t8] h7 fun t9 h10 =>
K.notK t9 fun t11 =>
K.iteV t11 (
K.bldSK ctx 57 [(1, (.int .i64 (.ofNat 1)))] fun t12 =>
K.stsK 7 t6 t12 h10 fun h13 =>
K.unmarkK [] h13 fun h14 => K.asPtr t6 fun n15 n16 => K.loads h14 n15 n16 7 fun t17 => .ok (.tup [(.agg t17), .nilSlice]) h14) (
K.letK (fun (l18 : List AV) (m19 : List Nat) (h20 : H) => K.uncons l18 fun t22 l23 => K.uncons l23 fun t24 l25 => K.unnil l25 (
K.ldsK ctx 57 7 t22 h20 fun t26 =>
K.stsK 7 t22 t26 h20 fun h27 =>
K.unmarkK m19 h27 fun h28 => K.asPtr t22 fun n29 n30 => K.loads h28 n29 n30 7 fun t31 => .ok (.tup [(.agg t31), t24]) h28)) fun j21 =>
K.fldK 0 t4 fun t32 =>
K.ldK ctx 47 t32 h10 fun t33 =>
K.eqK (K.binV ctx .eql 47 true t33 (.int .u8 (.ofNat 1))) t33 (.int .u8 (.ofNat 1)) fun t34 =>
K.iteV t34 (
K.fldK 1 t4 fun t35 =>
K.ldK ctx 3 t35 h10 fun t36 =>
K.fldK 2 t4 fun t37 =>
K.ldK ctx 24 t37 h10 fun t38 =>
K.fldK 3 t4 fun t39 =>
K.ldK ctx 24 t39 h10 fun t40 =>
K.fldK 4 t4 fun t41 =>
K.ldsK ctx 26 8 t41 h10 fun t42 =>
K.callFK run 5 [t0, t36, t38, t40, t42] h10 fun t43 h44 =>
K.extK t43 0 fun t45 =>
K.extK t43 1 fun t46 =>
K.extK t43 2 fun t47 =>
K.extK t43 3 fun t48 =>
K.fldK 0 t6 fun t49 =>
K.stK t49 t45 h44 fun h50 =>
K.fldK 3 t6 fun t51 =>
K.stsK 4 t51 t46 h50 fun h52 =>
K.fldK 1 t6 fun t53 =>
K.stK t53 t48 h52 fun h54 =>
j21 [t6, t47] [] h54) (
K.eqK (K.binV ctx .eql 47 true t33 (.int .u8 (.ofNat 2))) t33 (.int .u8 (.ofNat 2)) fun t55 =>
K.iteV t55 (
K.fldK 1 t4 fun t56 =>
K.ldK ctx 3 t56 h10 fun t57 =>
K.fldK 2 t4 fun t58 =>
K.ldK ctx 24 t58 h10 fun t59 =>
K.fldK 3 t4 fun t60 =>
K.ldK ctx 24 t60 h10 fun t61 =>
K.callFK run 8 [t0, t57, t59, t61] h10 fun t62 h63 =>
K.extK t62 0 fun t64 =>
K.extK t62 1 fun t65 =>
K.extK t62 2 fun t66 =>
K.fldK 2 t6 fun t67 =>
K.stK t67 t64 h63 fun h68 =>
K.fldK 1 t6 fun t69 =>
K.stK t69 t66 h68 fun h70 =>
j21 [t6, t65] [] h70) (
K.eqK (K.binV ctx .eql 47 true t33 (.int .u8 (.ofNat 3))) t33 (.int .u8 (.ofNat 3)) fun t71 =>
K.iteV t71 (
K.fldK 1 t4 fun t72 =>
K.ldK ctx 3 t72 h10 fun t73 =>
K.fldK 2 t4 fun t74 =>
K.ldK ctx 24 t74 h10 fun t75 =>
K.callFK run 6 [t0, t73, t75] h10 fun t76 h77 =>
K.extK t76 0 fun t78 =>
K.extK t76 1 fun t79 =>
K.extK t76 2 fun t80 =>
K.fldK 0 t6 fun t81 =>
K.stK t81 t78 h77 fun h82 =>
K.fldK 1 t6 fun t83 =>
K.stK t83 t80 h82 fun h84 =>
j21 [t6, t79] [] h84) (
K.eqK (K.binV ctx .eql 47 true t33 (.int .u8 (.ofNat 4))) t33 (.int .u8 (.ofNat 4)) fun t85 =>
K.iteV t85 (
K.fldK 1 t4 fun t86 =>
K.ldK ctx 3 t86 h10 fun t87 =>
K.fldK 2 t4 fun t88 =>
K.ldK ctx 24 t88 h10 fun t89 =>
K.callFK run 7 [t0, t87, t89] h10 fun t90 h91 =>
K.extK t90 0 fun t92 =>
K.extK t90 1 fun t93 =>
K.extK t90 2 fun t94 =>
K.fldK 0 t6 fun t95 =>
K.stK t95 t92 h91 fun h96 =>
K.fldK 1 t6 fun t97 =>
K.stK t97 t94 h96 fun h98 =>
j21 [t6, t93] [] h98) (
j21 [t6, .nilSlice] [] h10))))))
noncomputable def r23 : K.KRun → List AV → H → K.KR := fun run args h => K.uncons args fun t0 l1 => K.unnil l1 (
K.neK (K.binV ctx .neq 50 true t0 .nilPtr) t0 .nilPtr fun t2 =>
K.letK (fun (t3 : AV) (h4 : H) => K.letK (fun (t6 : AV) (h7 : H) => K.letK (fun (t9 : AV) (h10 : H) => K.letK (fun (t12 : AV) (h13 : H) => K.letK (fun (t15 : AV) (h16 : H) => K.pickK t2 t15 (.bool false) fun t18 =>
K.unmarkK [] h16 fun h19 => .ok t18 h19) fun j17 =>
K.guK true t2 (K.neK (K.binV ctx .neq 109 true t12 .nilFunc) t12 .nilFunc fun t20 =>
j17 t20 h13) (j17 (.tup []) h13)) fun j14 =>
K.guK true t2 (K.ldK ctx 109 t9 h10 fun t21 =>
j14 t21 h10) (j14 (.tup []) h10)) fun j11 =>
K.guK true t2 (K.fldK 16 t6 fun t22 =>
j11 t22 h7) (j11 (.tup []) h7)) fun j8 =>
K.guK true t2 (K.nilK t3 fun t23 =>
j8 t23 h4) (j8 (.tup []) h4)) fun j5 =>
K.guK true t2 (j5 t0 h) (j5 (.tup []) h))
noncomputable def r24 : K.KRun → List AV → H → K.KR := fun run args h => K.uncons args fun t0 l1 => K.uncons l1 fun t2 l3 => K.unnil l3 (
K.boxK t2 h fun t4 h5 =>
K.eqK (K.binV ctx .eql 50 true t0 .nilPtr) t0 .nilPtr fun t6 =>
K.iteV t6 (
K.unmarkK [] h5 fun h7 => .ok (.int .i64 (.ofNat 2)) h7) (
K.ldsK ctx 49 12 t4 h5 fun t8 =>
K.callFK run 58 [t8] h5 fun t9 h10 =>
K.notK t9 fun t11 =>
K.iteV t11 (
K.unmarkK [] h10 fun h12 => .ok (.int .i64 (.ofNat 1)) h12) (
K.letK (fun (l13 : List AV) (m14 : List Nat) (h15 : H) => K.uncons l13 fun t17 l18 => K.uncons l18 fun t19 l20 => K.uncons l20 fun t21 l22 => K.unnil l22 (
K.iteV t21 (
K.unmarkK m14 h15 fun h23 => .ok (.int .i64 (.ofNat 3)) h23) (
K.ldsK ctx 49 12 t19 h15 fun t24 =>
K.nilK t17 fun t25 =>
K.fldK 4 t25 fun t26 =>
K.stsK 12 t26 t24 h15 fun h27 =>
K.nilK t17 fun t28 =>
K.fldK 16 t28 fun t29 =>
K.stK t29 (.func (.func 60) [t17] []) h27 fun h30 =>
K.unmarkK m14 h30 fun h31 => .ok (.int .i64 (.ofNat 0)) h31))) fun j16 =>
K.nilK t0 fun t32 =>
K.fldK 16 t32 fun t33 =>
K.ldK ctx 109 t33 h10 fun t34 =>
K.neK (K.binV ctx .neq 109 true t34 .nilFunc) t34 .nilFunc fun t35 =>
K.iteV t35 (
j16 [t0, t4, t35] [] h10) (
K.nilK t0 fun t36 =>
K.fldK 24 t36 fun t37 =>
K.ldK ctx 4 t37 h10 fun t38 =>
j16 [t0, t4, t38] [] h10))))
noncomputable def r26 : K.KRun → List AV → H → K.KR := fun run args h => K.uncons args fun t0 l1 => K.unnil l1 (
K.allocK (K.zN ctx 23) (K.zT ctx 23) h fun t2 h3 =>
K.lenVK t0 fun t4 =>
K.ltK (K.binV ctx .lss 3 true t4 (.int .i64 (.ofNat 8))) t4 (.int .i64 (.ofNat 8)) fun t5 =>
K.letK (fun (t6 : AV) (h7 : H) => K.letK (fun (t9 : AV) (h10 : H) => K.letK (fun (t12 : AV) (h13 : H) => K.letK (fun (t15 : AV) (h16 : H) => K.pickK t5 (.bool true) t15 fun t18 =>
K.letK (fun (t19 : AV) (h20 : H) => K.letK (fun (t22 : AV) (h23 : H) => K.letK (fun (t25 : AV) (h26 : H) => K.letK (fun (t28 : AV) (h29 : H) => K.letK (fun (t31 : AV) (h32 : H) => K.letK (fun (t34 : AV) (h35 : H) => K.letK (fun (t37 : AV) (h38 : H) => K.letK (fun (t40 : AV) (h41 : H) => K.letK (fun (t43 : AV) (h44 : H) => K.letK (fun (t46 : AV) (h47 : H) => K.letK (fun (t49 : AV) (h50 : H) => K.pickK t18 (.bool true) t49 fun t52 =>
K.iteV t52 (
K.bldSK ctx 23 [] fun t53 =>
K.stsK 3 t2 t53 h50 fun h54 =>
K.unmarkK [] h54 fun h55 => K.asPtr t2 fun n56 n57 => K.loads h55 n56 n57 3 fun t58 => .ok (.tup [(.agg t58), (.bool false)]) h55) (
K.idxSK 1 t0 (.int .i64 (.ofNat 1)) fun t59 =>
K.ldK ctx 24 t59 h50 fun t60 =>
K.rK (convA ctx 24 3 t60 h50) fun t61 h62 =>
K.idxSK 1 t0 (.int .i64 (.ofNat 2)) fun t63 =>
K.ldK ctx 24 t63 h62 fun t64 =>
K.rK (convA ctx 24 3 t64 h62) fun t65 h66 =>
K.idxSK 1 t0 (.int .i64 (.ofNat 3)) fun t67 =>
K.ldK ctx 24 t67 h66 fun t68 =>
K.rK (convA ctx 24 3 t68 h66) fun t69 h70 =>
K.bldSK ctx 23 [(0, t61), (1, t65), (2, t69)] fun t71 =>
K.stsK 3 t2 t71 h70 fun h72 =>
K.ldsK ctx 23 3 t2 h72 fun t73 =>
K.callFK run 53 [t73] h72 fun t74 h75 =>
K.notK t74 fun t76 =>
K.letK (fun (t77 : AV) (h78 : H) => K.letK (fun (t80 : AV) (h81 : H) => K.letK (fun (t83 : AV) (h84 : H) => K.letK (fun (t86 : AV) (h87 : H) => K.letK (fun (t89 : AV) (h90 : H) => K.pickK t76 (.bool true) t89 fun t92 =>
K.iteV t92 (
K.bldSK ctx 23 [] fun t93 =>
K.stsK 3 t2 t93 h90 fun h94 =>
K.unmarkK [] h94 fun h95 => K.asPtr t2 fun n96 n97 => K.loads h95 n96 n97 3 fun t98 => .ok (.tup [(.agg t98), (.bool false)]) h95) (
K.ldsK ctx 23 3 t2 h90 fun t99 =>
K.stsK 3 t2 t99 h90 fun h100 =>
K.unmarkK [] h100 fun h101 => K.asPtr t2 fun n102 n103 => K.loads h101 n102 n103 3 fun t104 => .ok (.tup [(.agg t104), (.bool true)]) h101)) fun j91 =>
K.guK false t76 (K.ltK (K.binV ctx .lss 3 false t80 t86) t80 t86 fun t105 =>
j91 t105 h87) (j91 (.tup []) h87)) fun j88 =>
K.guK false t76 (K.callFK run 54 [t83] h84 fun t106 h107 =>
j88 t106 h107) (j88 (.tup []) h84)) fun j85 =>
K.guK false t76 (K.ldsK ctx 23 3 t2 h81 fun t108 =>
j85 t108 h81) (j85 (.tup []) h81)) fun j82 =>
K.guK false t76 (K.lenVK t77 fun t109 =>
j82 t109 h78) (j82 (.tup []) h78)) fun j79 =>
K.guK false t76 (j79 t0 h75) (j79 (.tup []) h75))) fun j51 =>
K.guK false t18 (K.gtK (K.binV ctx .gtr 24 true t46 (.int .u64 (.ofNat 512))) t46 (.int .u64 (.ofNat 512)) fun t110 =>
j51 t110 h47) (j51 (.tup []) h47)) fun j48 =>
K.guK false t18 (K.slowK ctx run (K.opAt Go.Proofs.Tryz.f26 1 19) [16, 19, 22] [t25, t34, t43] h44 fun t111 h112 =>
j48 t111 h112) (j48 (.tup []) h44)) fun j45 =>
K.guK false t18 (K.ldK ctx 24 t40 h41 fun t113 =>
j45 t113 h41) (j45 (.tup []) h41)) fun j42 =>
K.guK false t18 (K.idxSK 1 t37 (.int .i64 (.ofNat 3)) fun t114 =>
j42 t114 h38) (j42 (.tup []) h38)) fun j39 =>
K.guK false t18 (j39 t0 h35) (j39 (.tup []) h35)) fun j36 =>
K.guK false t18 (K.ldK ctx 24 t31 h32 fun t115 =>
j36 t115 h32) (j36 (.tup []) h32)) fun j33 =>
K.guK false t18 (K.idxSK 1 t28 (.int .i64 (.ofNat 2)) fun t116 =>
j33 t116 h29) (j33 (.tup []) h29)) fun j30 =>
K.guK false t18 (j30 t0 h26) (j30 (.tup []) h26)) fun j27 =>
K.guK false t18 (K.ldK ctx 24 t22 h23 fun t117 =>
j27 t117 h23) (j27 (.tup []) h23)) fun j24 =>
K.guK false t18 (K.idxSK 1 t19 (.int .i64 (.ofNat 1)) fun t118 =>
j24 t118 h20) (j24 (.tup []) h20)) fun j21 =>
K.guK false t18 (j21 t0 h16) (j21 (.tup []) h16)) fun j17 =>
K.guK false t5 (K.neK (K.binV ctx .neq 24 true t12 (.int .u64 (.ofNat 32762617960297063))) t12 (.int .u64 (.ofNat 32762617960297063)) fun t119 =>
j17 t119 h13) (j17 (.tup []) h13)) fun j14 =>
K.guK false t5 (K.ldK ctx 24 t9 h10 fun t120 =>
j14 t120 h10) (j14 (.tup []) h10)) fun j11 =>
K.guK false t5 (K.idxSK 1 t6 (.int .i64 (.ofNat 0)) fun t121 =>
j11 t121 h7) (j11 (.tup []) h7)) fun j8 =>
K.guK false t5 (j8 t0 h3) (j8 (.tup []) h3))
noncomputable def r31 : K.KRun → List AV → H → K.KR := fun run args h => K.uncons args fun t0 l1 => K.unnil l1 (
K.eqK (K.binV ctx .eql 43 true t0 .nilPtr) t0 .nilPtr fun t2 =>
K.iteV t2 (
K.unmarkK [] h fun h3 => .ok .nilSlice h3) (
K.letK (fun (l4 : List AV) (m5 : List Nat) (h6 : H) => K.uncons l4 fun t8 l9 => K.unnil l9 (
K.unmarkK m5 h6 fun h10 => .ok t8 h10)) fun j7 =>
K.nilK t0 fun t11 =>
K.fldK 2 t11 fun t12 =>
K.ldK ctx 67 t12 h fun t13 =>
K.lenVK t13 fun t14 =>
K.loopV (nat_lit 1000000) (fun s18 l15 m16 h17 => K.uncons l15 fun t19 l20 => K.uncons l20 fun t21 l22 => K.uncons l22 fun t23 l24 => K.uncons l24 fun t25 l26 => K.uncons l26 fun t27 l28 => K.unnil l28 (
K.ltK (K.binV ctx .lss 3 false t27 t25) t27 t25 fun t29 =>
K.iteV t29 (
K.idxSK 1 t23 t27 fun t30 =>
K.ldK ctx 3 t30 h17 fun t31 =>
K.nilK t19 fun t32 =>
K.fldK 1 t32 fun t33 =>
K.ldK ctx 99 t33 h17 fun t34 =>
K.slowK ctx run (K.opAt Go.Proofs.Tryz.f31 6 7) [21, 22] [t34, t31] h17 fun t35 h36 =>
K.bldSK ctx 105 [(0, t31), (1, t35)] fun t37 =>
K.bslK ctx 105 2 1 [(0, t37)] h36 fun t38 h39 =>
K.appK ctx 105 2 t21 t38 h39 fun t40 h41 =>
K.addK (K.binV ctx .add 3 true t27 (.int .i64 (.ofNat 1))) t27 (.int .i64 (.ofNat 1)) fun t42 =>
s18 [t19, t40, t23, t25, t42] m16 h41) (
j7 [t21] m16 h17))) [t0, .nilSlice, t13, t14, (.int .i64 (.ofNat 0))] [] h))
noncomputable def r32 : K.KRun → List AV → H → K.KR := fun run args h => K.uncons args fun t0 l1 => K.uncons l1 fun t2 l3 => K.uncons l3 fun t4 l5 => K.unnil l5 (
K.callFK run 63 [t0, t4, (.int .u64 (.ofNat 1))] h fun t6 h7 =>
K.neK (K.binV ctx .neq 28 true t6 (.int .i64 (.ofNat 0))) t6 (.int .i64 (.ofNat 0)) fun t8 =>
K.iteV t8 (
K.unmarkK [] h7 fun h9 => .ok (.tup [(.int .u8 (.ofNat 0)), t6]) h9) (
K.callFK run 71 [t0, t2] h7 fun t10 h11 =>
K.extK t10 0 fun t12 =>
K.extK t10 1 fun t13 =>
K.allocK (K.zN ctx 135) (K.zT ctx 135) h11 fun t14 h15 =>
K.stsK 3 t14 t12 h15 fun h16 =>
K.neK (K.binV ctx .neq 28 true t13 (.int .i64 (.ofNat 0))) t13 (.int .i64 (.ofNat 0)) fun t17 =>
K.iteV t17 (
K.unmarkK [] h16 fun h18 => .ok (.tup [(.int .u8 (.ofNat 0)), t13]) h18) (
K.fldK 0 t14 fun t19 =>
K.ldK ctx 4 t19 h16 fun t20 =>
K.letK (fun (t21 : AV) (h22 : H) => K.letK (fun (t24 : AV) (h25 : H) => K.letK (fun (t27 : AV) (h28 : H) => K.letK (fun (t30 : AV) (h31 : H) => K.pickK t20 t30 (.bool false) fun t33 =>
K.iteV t33 (
K.unmarkK [] h31 fun h34 => .ok (.tup [(.int .u8 (.ofNat 1)), (.int .i64 (.ofNat 0))]) h34) (
K.fldK 1 t14 fun t35 =>
K.ldK ctx 24 t35 h31 fun t36 =>
K.leK (K.binV ctx .leq 24 false t4 t36) t4 t36 fun t37 =>
K.iteV t37 (
K.unmarkK [] h31 fun h38 => .ok (.tup [(.int .u8 (.ofNat 2)), (.int .i64 (.ofNat 0))]) h38) (
K.letK (fun (l39 : List AV) (m40 : List Nat) (h41 : H) => K.uncons l39 fun t43 l44 => K.uncons l44 fun t45 l46 => K.uncons l46 fun t47 l48 => K.uncons l48 fun t49 l50 => K.unnil l50 (
K.iteV t49 (
K.unmarkK m40 h41 fun h51 => .ok (.tup [(.int .u8 (.ofNat 3)), (.int .i64 (.ofNat 0))]) h51) (
K.bldSK ctx 135 [(0, (.bool true)), (1, t47)] fun t52 =>
K.callFK run 72 [t43, t45, t52] h41 fun t53 h54 =>
K.letK (fun (l55 : List AV) (m56 : List Nat) (h57 : H) => K.uncons l55 fun t59 l60 => K.unnil l60 (
K.unmarkK m56 h57 fun h61 => .ok (.tup [(.int .u8 (.ofNat 0)), t59]) h61)) fun j58 =>
K.eqK (K.binV ctx .eql 28 true t53 (.int .i64 (.ofNat 0))) t53 (.int .i64 (.ofNat 0)) fun t62 =>
K.iteV t62 (
K.callFK run 73 [t43, t45] h54 fun t63 h64 =>
j58 [t63] m40 h64) (
j58 [t53] m40 h54)))) fun j42 =>
K.fldK 0 t14 fun t65 =>
K.ldK ctx 4 t65 h31 fun t66 =>
K.iteV t66 (
j42 [t0, t2, t4, t66] [] h31) (
K.fldK 1 t14 fun t67 =>
K.ldK ctx 24 t67 h31 fun t68 =>
K.subK (K.binV ctx .sub 24 false t4 t68) t4 t68 fun t69 =>
K.gtK (K.binV ctx .gtr 24 true t69 (.int .u64 (.ofNat 1))) t69 (.int .u64 (.ofNat 1)) fun t70 =>
j42 [t0, t2, t4, t70] [] h31)))) fun j32 =>
K.guK true t20 (K.eqK (K.binV ctx .eql 24 false t21 t27) t21 t27 fun t71 =>
j32 t71 h28) (j32 (.tup []) h28)) fun j29 =>
K.guK true t20 (K.ldK ctx 24 t24 h25 fun t72 =>
j29 t72 h25) (j29 (.tup []) h25)) fun j26 =>
K.guK true t20 (K.fldK 1 t14 fun t73 =>
j26 t73 h22) (j26 (.tup []) h22)) fun j23 =>
K.guK true t20 (j23 t4 h16) (j23 (.tup []) h16))))
noncomputable def r33 : K.KRun → List AV → H → K.KR := fun run args h => K.uncons args fun t0 l1 => K.uncons l1 fun t2 l3 => K.uncons l3 fun t4 l5 => K.unnil l5 (
K.neK (K.binV ctx .neq 28 true t4 (.int .i64 (.ofNat 0))) t4 (.int .i64 (.ofNat 0)) fun t6 =>
K.iteV t6 (
K.unmarkK [] h fun h7 => .ok (.tup [(.int .u8 (.ofNat 0)), .nilSlice, t4]) h7) (
K.callFK run 31 [t0] h fun t8 h9 =>
K.unmarkK [] h9 fun h10 => .ok (.tup [t2, t8, (.int .i64 (.ofNat 0))]) h10))
noncomputable def r37 : K.KRun → List AV → H → K.KR := fun run args h => K.uncons args fun t0 l1 => K.uncons l1 fun t2 l3 => K.unnil l3 (
K.allocK (K.zN ctx 23) (K.zT ctx 23) h fun t4 h5 =>
K.rK (convA ctx 5 3 t0 h5) fun t6 h7 =>
K.oK (K.binV ctx .rem 3 true t6 (.int .i64 (.ofNat 20))) fun t8 =>
K.addK (K.binV ctx .add 3 true (.int .i64 (.ofNat 2)) t8) (.int .i64 (.ofNat 2)) t8 fun t9 =>
K.rK (convA ctx 5 3 t2 h7) fun t10 h11 =>
K.oK (K.binV ctx .rem 3 true t10 (.int .i64 (.ofNat 60))) fun t12 =>
K.addK (K.binV ctx .add 3 true (.int .i64 (.ofNat 2)) t12) (.int .i64 (.ofNat 2)) t12 fun t13 =>
K.bldSK ctx 23 [(0, (.int .i64 (.ofNat 1))), (1, t9), (2, t13)] fun t14 =>
K.stsK 3 t4 t14 h11 fun h15 =>
K.unmarkK [] h15 fun h16 => K.asPtr t4 fun n17 n18 => K.loads h16 n17 n18 3 fun t19 => .ok (.agg t19) h16)
noncomputable def r38 : K.KRun → List AV → H → K.KR := fun run args h => K.uncons args fun t0 l1 => K.unnil l1 (
K.boxK t0 h fun t2 h3 =>
K.fldK 0 t2 fun t4 =>
K.ldK ctx 3 t4 h3 fun t5 =>
K.geK (K.binV ctx .geq 3 true t5 (.int .i64 (.ofNat 1))) t5 (.int .i64 (.ofNat 1)) fun t6 =>
K.letK (fun (t7 : AV) (h8 : H) => K.letK (fun (t10 : AV) (h11 : H) => K.letK (fun (t13 : AV) (h14 : H) => K.pickK t6 t13 (.bool false) fun t16 =>
K.letK (fun (t17 : AV) (h18 : H) => K.letK (fun (t20 : AV) (h21 : H) => K.letK (fun (t23 : AV) (h24 : H) => K.pickK t16 t23 (.bool false) fun t26 =>
K.letK (fun (t27 : AV) (h28 : H) => K.letK (fun (t30 : AV) (h31 : H) => K.letK (fun (t33 : AV) (h34 : H) => K.pickK t26 t33 (.bool false) fun t36 =>
K.letK (fun (t37 : AV) (h38 : H) => K.letK (fun (t40 : AV) (h41 : H) => K.letK (fun (t43 : AV) (h44 : H) => K.pickK t36 t43 (.bool false) fun t46 =>
K.letK (fun (t47 : AV) (h48 : H) => K.letK (fun (t50 : AV) (h51 : H) => K.letK (fun (t53 : AV) (h54 : H) => K.pickK t46 t53 (.bool false) fun t56 =>
K.unmarkK [] h54 fun h57 => .ok t56 h57) fun j55 =>
K.guK true t46 (K.leK (K.binV ctx .leq 3 true t50 (.int .i64 (.ofNat 512))) t50 (.int .i64 (.ofNat 512)) fun t58 =>
j55 t58 h51) (j55 (.tup []) h51)) fun j52 =>
K.guK true t46 (K.ldK ctx 3 t47 h48 fun t59 =>
j52 t59 h48) (j52 (.tup []) h48)) fun j49 =>
K.guK true t46 (K.fldK 2 t2 fun t60 =>
j49 t60 h44) (j49 (.tup []) h44)) fun j45 =>
K.guK true t36 (K.geK (K.binV ctx .geq 3 true t40 (.int .i64 (.ofNat 2))) t40 (.int .i64 (.ofNat 2)) fun t61 =>
j45 t61 h41) (j45 (.tup []) h41)) fun j42 =>
K.guK true t36 (K.ldK ctx 3 t37 h38 fun t62 =>
j42 t62 h38) (j42 (.tup []) h38)) fun j39 =>
K.guK true t36 (K.fldK 2 t2 fun t63 =>
j39 t63 h34) (j39 (.tup []) h34)) fun j35 =>
K.guK true t26 (K.leK (K.binV ctx .leq 3 true t30 (.int .i64 (.ofNat 64))) t30 (.int .i64 (.ofNat 64)) fun t64 =>
j35 t64 h31) (j35 (.tup []) h31)) fun j32 =>
K.guK true t26 (K.ldK ctx 3 t27 h28 fun t65 =>
j32 t65 h28) (j32 (.tup []) h28)) fun j29 =>
K.guK true t26 (K.fldK 1 t2 fun t66 =>
j29 t66 h24) (j29 (.tup []) h24)) fun j25 =>
K.guK true t16 (K.geK (K.binV ctx .geq 3 true t20 (.int .i64 (.ofNat 2))) t20 (.int .i64 (.ofNat 2)) fun t67 =>
j25 t67 h21) (j25 (.tup []) h21)) fun j22 =>
K.guK true t16 (K.ldK ctx 3 t17 h18 fun t68 =>
j22 t68 h18) (j22 (.tup []) h18)) fun j19 =>
K.guK true t16 (K.fldK 1 t2 fun t69 =>
j19 t69 h14) (j19 (.tup []) h14)) fun j15 =>
K.guK true t6 (K.leK (K.binV ctx .leq 3 true t10 (.int .i64 (.ofNat 4))) t10 (.int .i64 (.ofNat 4)) fun t70 =>
j15 t70 h11) (j15 (.tup []) h11)) fun j12 =>
K.guK true t6 (K.ldK ctx 3 t7 h8 fun t71 =>
j12 t71 h8) (j12 (.tup []) h8)) fun j9 =>
K.guK true t6 (K.fldK 0 t2 fun t72 =>
j9 t72 h3) (j9 (.tup []) h3))
noncomputable def r39 : K.KRun → List AV → H → K.KR := fun run args h => K.uncons args fun t0 l1 => K.unnil l1 (
K.boxK t0 h fun t2 h3 =>
K.ldsK ctx 41 3 t2 h3 fun t4 =>
K.callFK run 38 [t4] h3 fun t5 h6 =>
K.notK t5 fun t7 =>
K.iteV t7 (
K.unmarkK [] h6 fun h8 => .ok (.int .i64 (.ofNat 0)) h8) (
K.ldsK ctx 41 3 t2 h6 fun t9 =>
K.fldK 1 t2 fun t10 =>
K.ldK ctx 3 t10 h6 fun t11 =>
K.mulK (K.binV ctx .mul 3 true (.int .i64 (.ofNat 16)) t11) (.int .i64 (.ofNat 16)) t11 fun t12 =>
K.fldK 2 t2 fun t13 =>
K.ldK ctx 3 t13 h6 fun t14 =>
K.mulK (K.binV ctx .mul 3 true (.int .i64 (.ofNat 8)) t14) (.int .i64 (.ofNat 8)) t14 fun t15 =>
K.callFK run 77 [t9] h6 fun t16 h17 =>
K.ldK ctx 3 t13 h17 fun t18 =>
K.req (AV.same t14 t18) (
K.ldK ctx 3 t10 h17 fun t19 =>
K.req (AV.same t11 t19) (
K.addK (K.binV ctx .add 3 true t16 (.int .i64 (.ofNat 16))) t16 (.int .i64 (.ofNat 16)) fun t20 =>
K.addK (K.binV ctx .add 3 false t20 t12) t20 t12 fun t21 =>
K.addK (K.binV ctx .add 3 false t21 t15) t21 t15 fun t22 =>
K.unmarkK [] h17 fun h23 => .ok t22 h23))))
noncomputable def r40 : K.KRun → List AV → H → K.KR := fun run args h => K.uncons args fun t0 l1 => K.unnil l1 (
K.boxK t0 h fun t2 h3 =>
K.ldsK ctx 41 3 t2 h3 fun t4 =>
K.callFK run 38 [t4] h3 fun t5 h6 =>
K.notK t5 fun t7 =>
K.iteV t7 (
K.unmarkK [] h6 fun h8 => .ok (.int .i64 (.negSucc 0)) h8) (
K.ldsK ctx 41 3 t2 h6 fun t9 =>
K.callFK run 77 [t9] h6 fun t10 h11 =>
K.unmarkK [] h11 fun h12 => .ok t10 h12))
noncomputable def r41 : K.KRun → List AV → H → K.KR := fun run args h => K.uncons args fun t0 l1 => K.unnil l1 (
K.boxK t0 h fun t2 h3 =>
K.ldsK ctx 41 3 t2 h3 fun t4 =>
K.callFK run 38 [t4] h3 fun t5 h6 =>
K.notK t5 fun t7 =>
K.iteV t7 (
K.unmarkK [] h6 fun h8 => .ok (.int .i64 (.negSucc 0)) h8) (
K.ldsK ctx 41 3 t2 h6 fun t9 =>
K.callFK run 77 [t9] h6 fun t10 h11 =>
K.addK (K.binV ctx .add 3 true t10 (.int .i64 (.ofNat 8))) t10 (.int .i64 (.ofNat 8)) fun t12 =>
K.unmarkK [] h11 fun h13 => .ok t12 h13))
noncomputable def r42 : K.KRun → List AV → H → K.KR := fun run args h => K.uncons args fun t0 l1 => K.uncons l1 fun t2 l3 => K.unnil l3 (
K.boxK t0 h fun t4 h5 =>
K.ldsK ctx 41 3 t4 h5 fun t6 =>
K.callFK run 38 [t6] h5 fun t7 h8 =>
K.notK t7 fun t9 =>
K.letK (fun (t10 : AV) (h11 : H) => K.letK (fun (t13 : AV) (h14 : H) => K.pickK t9 (.bool true) t13 fun t16 =>
K.letK (fun (t17 : AV) (h18 : H) => K.letK (fun (t20 : AV) (h21 : H) => K.letK (fun (t23 : AV) (h24 : H) => K.letK (fun (t26 : AV) (h27 : H) => K.pickK t16 (.bool true) t26 fun t29 =>
K.iteV t29 (
K.unmarkK [] h27 fun h30 => .ok (.int .i64 (.negSucc 0)) h30) (
K.ldsK ctx 41 3 t4 h27 fun t31 =>
K.callFK run 77 [t31] h27 fun t32 h33 =>
K.addK (K.binV ctx .add 3 true t32 (.int .i64 (.ofNat 16))) t32 (.int .i64 (.ofNat 16)) fun t34 =>
K.mulK (K.binV ctx .mul 3 true (.int .i64 (.ofNat 16)) t2) (.int .i64 (.ofNat 16)) t2 fun t35 =>
K.addK (K.binV ctx .add 3 false t34 t35) t34 t35 fun t36 =>
K.unmarkK [] h33 fun h37 => .ok t36 h37)) fun j28 =>
K.guK false t16 (K.geK (K.binV ctx .geq 3 false t17 t23) t17 t23 fun t38 =>
j28 t38 h24) (j28 (.tup []) h24)) fun j25 =>
K.guK false t16 (K.ldK ctx 3 t20 h21 fun t39 =>
j25 t39 h21) (j25 (.tup []) h21)) fun j22 =>
K.guK false t16 (K.fldK 1 t4 fun t40 =>
j22 t40 h18) (j22 (.tup []) h18)) fun j19 =>
K.guK false t16 (j19 t2 h14) (j19 (.tup []) h14)) fun j15 =>
K.guK false t9 (K.ltK (K.binV ctx .lss 3 true t10 (.int .i64 (.ofNat 0))) t10 (.int .i64 (.ofNat 0)) fun t41 =>
j15 t41 h11) (j15 (.tup []) h11)) fun j12 =>
K.guK false t9 (j12 t2 h8) (j12 (.tup []) h8))
noncomputable def r45 : K.KRun → List AV → H → K.KR := fun run args h => K.uncons args fun t0 l1 => K.unnil l1 (
K.eqK (K.binV ctx .eql 39 true t0 .nilSlice) t0 .nilSlice fun t2 =>
K.iteV t2 (
K.unmarkK [] h fun h3 => .ok .nilSlice h3) (
K.bslK ctx 24 1 0 [] h fun t4 h5 =>
K.appK ctx 24 1 t4 t0 h5 fun t6 h7 =>
K.unmarkK [] h7 fun h8 => .ok t6 h8))
noncomputable def r48 : K.KRun → List AV → H → K.KR := fun run args h => K.uncons args fun t0 l1 => K.uncons l1 fun t2 l3 => K.uncons l3 fun t4 l5 => K.unnil l5 (
K.boxK t2 h fun t6 h7 =>
K.ldsK ctx 23 3 t6 h7 fun t8 =>
K.callFK run 93 [t8, t4] h7 fun t9 h10 =>
K.eqK (K.binV ctx .eql 61 true t0 .nilPtr) t0 .nilPtr fun t11 =>
K.iteV t11 (
K.unmarkK [] h10 fun h12 => .ok (.tup [.nilPtr, (.int .i64 (.ofNat 2))]) h12) (
K.ltK (K.binV ctx .lss 3 true t9 (.int .i64 (.ofNat 0))) t9 (.int .i64 (.ofNat 0)) fun t13 =>
K.iteV t13 (
K.unmarkK [] h10 fun h14 => .ok (.tup [.nilPtr, (.int .i64 (.ofNat 1))]) h14) (
K.ldsK ctx 23 3 t6 h10 fun t15 =>
K.callFK run 94 [t0] h10 fun t16 h17 =>
K.ldsK ctx 23 3 t6 h17 fun t18 =>
K.req (AV.same t15 t18) (
K.callFK run 54 [t15] h17 fun t19 h20 =>
K.ltK (K.binV ctx .lss 3 false t16 t19) t16 t19 fun t21 =>
K.iteV t21 (
K.unmarkK [] h20 fun h22 => .ok (.tup [.nilPtr, (.int .i64 (.ofNat 8))]) h22) (
K.ldsK ctx 23 3 t6 h20 fun t23 =>
K.bldSK ctx 160 [(0, t0), (1, t23), (2, t9)] fun t24 =>
K.boxK t24 h20 fun t25 h26 =>
K.unmarkK [] h26 fun h27 => .ok (.tup [t25, (.int .i64 (.ofNat 0))]) h27)))))
noncomputable def r49 : K.KRun → List AV → H → K.KR := fun run args h => K.uncons args fun t0 l1 => K.uncons l1 fun t2 l3 => K.unnil l3 (
K.letK (fun (l4 : List AV) (m5 : List Nat) (h6 : H) => K.unnil l4 (
K.unmarkK m5 h6 fun h8 => .ok (.tup [(.int .i64 (.ofNat 0)), (.bool false)]) h8)) fun j7 =>
K.loopV (nat_lit 1000000) (fun s12 l9 m10 h11 => K.uncons l9 fun t13 l14 => K.uncons l14 fun t15 l16 => K.uncons l16 fun t17 l18 => K.unnil l18 (
K.ltK (K.binV ctx .lss 3 true t17 (.int .i64 (.ofNat 70))) t17 (.int .i64 (.ofNat 70)) fun t19 =>
K.iteV t19 (
K.callFK run 96 [t13, t17] h11 fun t20 h21 =>
K.callFK run 95 [t20, t15] h21 fun t22 h23 =>
K.iteV t22 (
K.unmarkK m10 h23 fun h24 => .ok (.tup [t17, (.bool true)]) h24) (
K.addK (K.binV ctx .add 3 true t17 (.int .i64 (.ofNat 1))) t17 (.int .i64 (.ofNat 1)) fun t25 =>
s12 [t13, t15, t25] m10 h23)) (
j7 [] m10 h11))) [t0, t2, (.int .i64 (.ofNat 0))] [] h)
noncomputable def r50 : K.KRun → List AV → H → K.KR := fun run args h => K.uncons args fun t0 l1 => K.unnil l1 (
K.ltK (K.binV ctx .lss 3 true t0 (.int .i64 (.ofNat 8))) t0 (.int .i64 (.ofNat 8)) fun t2 =>
K.letK (fun (t3 : AV) (h4 : H) => K.letK (fun (t6 : AV) (h7 : H) => K.pickK t2 (.bool true) t6 fun t9 =>
K.letK (fun (t10 : AV) (h11 : H) => K.letK (fun (t13 : AV) (h14 : H) => K.letK (fun (t16 : AV) (h17 : H) => K.pickK t9 (.bool true) t16 fun t19 =>
K.iteV t19 (
K.unmarkK [] h17 fun h20 => .ok (.tup [.nilPtr, (.int .i64 (.ofNat 1))]) h20) (
K.mslK ctx 172 6 t0 t0 h17 fun t21 h22 =>
K.bldSK ctx 165 [(0, t21)] fun t23 =>
K.boxK t23 h22 fun t24 h25 =>
K.unmarkK [] h25 fun h26 => .ok (.tup [t24, (.int .i64 (.ofNat 0))]) h26)) fun j18 =>
K.guK false t9 (K.neK (K.binV ctx .neq 3 true t13 (.int .i64 (.ofNat 0))) t13 (.int .i64 (.ofNat 0)) fun t27 =>
j18 t27 h14) (j18 (.tup []) h14)) fun j15 =>
K.guK false t9 (K.oK (K.binV ctx .rem 3 true t10 (.int .i64 (.ofNat 8))) fun t28 =>
j15 t28 h11) (j15 (.tup []) h11)) fun j12 =>
K.guK false t9 (j12 t0 h7) (j12 (.tup []) h7)) fun j8 =>
K.guK false t2 (K.gtK (K.binV ctx .gtr 3 true t3 (.int .i64 (.ofNat 65536))) t3 (.int .i64 (.ofNat 65536)) fun t29 =>
j8 t29 h4) (j8 (.tup []) h4)) fun j5 =>
K.guK false t2 (j5 t0 h) (j5 (.tup []) h))
noncomputable def r51 : K.KRun → List AV → H → K.KR := fun run args h => K.uncons args fun t0 l1 => K.uncons l1 fun t2 l3 => K.uncons l3 fun t4 l5 => K.unnil l5 (
K.callFK run 97 [t0, t2] h fun t6 h7 =>
K.extK t6 0 fun t8 =>
K.extK t6 1 fun t9 =>
K.letK (fun (l10 : List AV) (m11 : List Nat) (h12 : H) => K.uncons l10 fun t14 l15 => K.unnil l15 (
K.unmarkK m11 h12 fun h16 => .ok t14 h16)) fun j13 =>
K.eqK (K.binV ctx .eql 28 true t9 (.int .i64 (.ofNat 0))) t9 (.int .i64 (.ofNat 0)) fun t17 =>
K.iteV t17 (
K.nilK t8 fun t18 =>
K.fldK 1 t18 fun t19 =>
K.stK t19 t4 h7 fun h20 =>
K.nilK t8 fun t21 =>
K.fldK 2 t21 fun t22 =>
K.fldK 0 t22 fun t23 =>
K.stK t23 (.bool true) h20 fun h24 =>
K.nilK t8 fun t25 =>
K.fldK 2 t25 fun t26 =>
K.fldK 2 t26 fun t27 =>
K.stK t27 (.bool true) h24 fun h28 =>
j13 [t9] [] h28) (
j13 [t9] [] h7))
noncomputable def r52 : K.KRun → List AV → H → K.KR := fun run args h => K.uncons args fun t0 l1 => K.uncons l1 fun t2 l3 => K.unnil l3 (
K.callFK run 98 [t0, t2, (.func (.func 99) [] [])] h fun t4 h5 =>
K.unmarkK [] h5 fun h6 => .ok t4 h6)
noncomputable def r53 : K.KRun → List AV → H → K.KR := fun run args h => K.uncons args fun t0 l1 => K.unnil l1 (
K.boxK t0 h fun t2 h3 =>
K.fldK 0 t2 fun t4 =>
K.ldK ctx 3 t4 h3 fun t5 =>
K.callFK run 101 [t5, (.int .i64 (.ofNat 1)), (.int .i64 (.ofNat 4))] h3 fun t6 h7 =>
K.letK (fun (t8 : AV) (h9 : H) => K.letK (fun (t11 : AV) (h12 : H) => K.letK (fun (t14 : AV) (h15 : H) => K.pickK t6 t14 (.bool false) fun t17 =>
K.letK (fun (t18 : AV) (h19 : H) => K.letK (fun (t21 : AV) (h22 : H) => K.letK (fun (t24 : AV) (h25 : H) => K.pickK t17 t24 (.bool false) fun t27 =>
K.unmarkK [] h25 fun h28 => .ok t27 h28) fun j26 =>
K.guK true t17 (K.callFK run 101 [t21, (.int .i64 (.ofNat 2)), (.int .i64 (.ofNat 512))] h22 fun t29 h30 =>
j26 t29 h30) (j26 (.tup []) h22)) fun j23 =>
K.guK true t17 (K.ldK ctx 3 t18 h19 fun t31 =>
j23 t31 h19) (j23 (.tup []) h19)) fun j20 =>
K.guK true t17 (K.fldK 2 t2 fun t32 =>
j20 t32 h15) (j20 (.tup []) h15)) fun j16 =>
K.guK true t6 (K.callFK run 101 [t11, (.int .i64 (.ofNat 2)), (.int .i64 (.ofNat 64))] h12 fun t33 h34 =>
j16 t33 h34) (j16 (.tup []) h12)) fun j13 =>
K.guK true t6 (K.ldK ctx 3 t8 h9 fun t35 =>
j13 t35 h9) (j13 (.tup []) h9)) fun j10 =>
K.guK true t6 (K.fldK 1 t2 fun t36 =>
j10 t36 h7) (j10 (.tup []) h7))
noncomputable def r54 : K.KRun → List AV → H → K.KR := fun run args h => K.uncons args fun t0 l1 => K.unnil l1 (
K.boxK t0 h fun t2 h3 =>
K.ldsK ctx 23 3 t2 h3 fun t4 =>
K.callFK run 53 [t4] h3 fun t5 h6 =>
K.notK t5 fun t7 =>
K.iteV t7 (
K.unmarkK [] h6 fun h8 => .ok (.int .i64 (.ofNat 0)) h8) (
K.letK (fun (l9 : List AV) (m10 : List Nat) (h11 : H) => K.uncons l9 fun t13 l14 => K.unnil l14 (
K.unmarkK m10 h11 fun h15 => .ok t13 h15)) fun j12 =>
K.ldsK ctx 23 3 t2 h6 fun t16 =>
K.callFK run 102 [t16] h6 fun t17 h18 =>
K.loopV (nat_lit 1000000) (fun s22 l19 m20 h21 => K.uncons l19 fun t23 l24 => K.uncons l24 fun t25 l26 => K.uncons l26 fun t27 l28 => K.unnil l28 (
K.ltK (K.binV ctx .lss 3 true t27 (.int .i64 (.ofNat 7))) t27 (.int .i64 (.ofNat 7)) fun t29 =>
K.iteV t29 (
K.idxK ctx 179 3 7 t25 t27 fun t30 =>
K.allocK (K.zN ctx 179) (K.zT ctx 179) h21 fun t31 h32 =>
K.stsK 3 t31 t30 h32 fun h33 =>
K.fldK 1 t31 fun t34 =>
K.ldK ctx 3 t34 h33 fun t35 =>
K.fldK 2 t31 fun t36 =>
K.ldK ctx 3 t36 h33 fun t37 =>
K.mulK (K.binV ctx .mul 3 false t35 t37) t35 t37 fun t38 =>
K.addK (K.binV ctx .add 3 false t23 t38) t23 t38 fun t39 =>
K.addK (K.binV ctx .add 3 true t27 (.int .i64 (.ofNat 1))) t27 (.int .i64 (.ofNat 1)) fun t40 =>
s22 [t39, t25, t40] m20 h33) (
j12 [t23] m20 h21))) [(.int .i64 (.ofNat 0)), t17, (.int .i64 (.ofNat 0))] [] h18))
noncomputable def r55 : K.KRun → List AV → H → K.KR := fun run args h => K.uncons args fun t0 l1 => K.unnil l1 (
K.boxK t0 h fun t2 h3 =>
K.ldsK ctx 23 3 t2 h3 fun t4 =>
K.callFK run 103 [t4, (.int .u8 (.ofNat 6)), (.int .i64 (.ofNat 0))] h3 fun t5 h6 =>
K.unmarkK [] h6 fun h7 => .ok t5 h7)
noncomputable def r56 : K.KRun → List AV → H → K.KR := fun run args h => K.uncons args fun t0 l1 => K.unnil l1 (
K.boxK t0 h fun t2 h3 =>
K.ldsK ctx 23 3 t2 h3 fun t4 =>
K.callFK run 103 [t4, (.int .u8 (.ofNat 7)), (.int .i64 (.ofNat 0))] h3 fun t5 h6 =>
K.unmarkK [] h6 fun h7 => .ok t5 h7)
noncomputable def r57 : K.KRun → List AV → H → K.KR := fun run args h => K.uncons args fun t0 l1 => K.uncons l1 fun t2 l3 => K.unnil l3 (
K.boxK t0 h fun t4 h5 =>
K.ldsK ctx 23 3 t4 h5 fun t6 =>
K.callFK run 103 [t6, (.int .u8 (.ofNat 8)), t2] h5 fun t7 h8 =>
K.unmarkK [] h8 fun h9 => .ok t7 h9)
noncomputable def r58 : K.KRun → List AV → H → K.KR := fun run args h => K.uncons args fun t0 l1 => K.unnil l1 (
K.boxK t0 h fun t2 h3 =>
K.fldK 0 t2 fun t4 =>
K.ldK ctx 47 t4 h3 fun t5 =>
K.geK (K.binV ctx .geq 47 true t5 (.int .u8 (.ofNat 1))) t5 (.int .u8 (.ofNat 1)) fun t6 =>
K.letK (fun (t7 : AV) (h8 : H) => K.letK (fun (t10 : AV) (h11 : H) => K.letK (fun (t13 : AV) (h14 : H) => K.pickK t6 t13 (.bool false) fun t16 =>
K.letK (fun (t17 : AV) (h18 : H) => K.letK (fun (t20 : AV) (h21 : H) => K.letK (fun (t23 : AV) (h24 : H) => K.pickK t16 t23 (.bool false) fun t26 =>
K.letK (fun (t27 : AV) (h28 : H) => K.letK (fun (t30 : AV) (h31 : H) => K.letK (fun (t33 : AV) (h34 : H) => K.pickK t26 t33 (.bool false) fun t36 =>
K.unmarkK [] h34 fun h37 => .ok t36 h37) fun j35 =>
K.guK true t26 (K.ltK (K.binV ctx .lss 3 true t30 (.int .i64 (.ofNat 4))) t30 (.int .i64 (.ofNat 4)) fun t38 =>
j35 t38 h31) (j35 (.tup []) h31)) fun j32 =>
K.guK true t26 (K.ldK ctx 3 t27 h28 fun t39 =>
j32 t39 h28) (j32 (.tup []) h28)) fun j29 =>
K.guK true t26 (K.fldK 1 t2 fun t40 =>
j29 t40 h24) (j29 (.tup []) h24)) fun j25 =>
K.guK true t16 (K.geK (K.binV ctx .geq 3 true t20 (.int .i64 (.ofNat 0))) t20 (.int .i64 (.ofNat 0)) fun t41 =>
j25 t41 h21) (j25 (.tup []) h21)) fun j22 =>
K.guK true t16 (K.ldK ctx 3 t17 h18 fun t42 =>
j22 t42 h18) (j22 (.tup []) h18)) fun j19 =>
K.guK true t16 (K.fldK 1 t2 fun t43 =>
j19 t43 h14) (j19 (.tup []) h14)) fun j15 =>
K.guK true t6 (K.leK (K.binV ctx .leq 47 true t10 (.int .u8 (.ofNat 4))) t10 (.int .u8 (.ofNat 4)) fun t44 =>
j15 t44 h11) (j15 (.tup []) h11)) fun j12 =>
K.guK true t6 (K.ldK ctx 47 t7 h8 fun t45 =>
j12 t45 h8) (j12 (.tup []) h8)) fun j9 =>
K.guK true t6 (K.fldK 0 t2 fun t46 =>
j9 t46 h3) (j9 (.tup []) h3))
noncomputable def r59 : K.KRun → List AV → H → K.KR := fun run args h => K.uncons args fun t0 l1 => K.uncons l1 fun t2 l3 => K.unnil l3 (
K.boxK t2 h fun t4 h5 =>
K.slowK ctx run (K.opAt Go.Proofs.Tryz.f59 1 0) [] [] h5 fun t6 h7 =>
K.fldK 1 t4 fun t8 =>
K.ldK ctx 3 t8 h7 fun t9 =>
K.callFK run 104 [t9] h7 fun t10 h11 =>
K.slowK ctx run (K.opAt Go.Proofs.Tryz.f59 1 4) [11, 14] [t6, t10] h11 fun t12 h13 =>
K.letK (fun (l14 : List AV) (m15 : List Nat) (h16 : H) => K.uncons l14 fun t18 l19 => K.unnil l19 (
K.callFK run 108 [t18] h16 fun t20 h21 =>
K.callFK run 107 [t20] h21 fun t22 h23 =>
K.unmarkK m15 h23 fun h24 => .ok t22 h24)) fun j17 =>
K.callFK run 26 [t0] h13 fun t25 h26 =>
K.extK t25 0 fun t27 =>
K.extK t25 1 fun t28 =>
K.allocK (K.zN ctx 23) (K.zT ctx 23) h26 fun t29 h30 =>
K.stsK 3 t29 t27 h30 fun h31 =>
K.iteV t28 (
K.ldsK ctx 23 3 t29 h31 fun t32 =>
K.fldK 1 t4 fun t33 =>
K.ldK ctx 3 t33 h31 fun t34 =>
K.ldsK ctx 49 12 t4 h31 fun t35 =>
K.callFK run 12 [t0] h31 fun t36 h37 =>
K.ldsK ctx 49 12 t4 h37 fun t38 =>
K.req (AV.same t35 t38) (
K.ldK ctx 3 t33 h37 fun t39 =>
K.req (AV.same t34 t39) (
K.ldsK ctx 23 3 t29 h37 fun t40 =>
K.req (AV.same t32 t40) (
K.bldSK ctx 187 [(0, t36), (1, t32), (2, t34)] fun t41 =>
K.callFK run 105 [t41, t35] h37 fun t42 h43 =>
K.allocK (K.zN ctx 185) (K.zT ctx 185) h43 fun t44 h45 =>
K.stsK 3 t44 t42 h45 fun h46 =>
K.letK (fun (l47 : List AV) (m48 : List Nat) (h49 : H) => K.uncons l47 fun t51 l52 => K.uncons l52 fun t53 l54 => K.unnil l54 (
K.letK (fun (l55 : List AV) (m56 : List Nat) (h57 : H) => K.uncons l55 fun t59 l60 => K.uncons l60 fun t61 l62 => K.unnil l62 (
K.fldK 2 t61 fun t63 =>
K.ldK ctx 67 t63 h57 fun t64 =>
K.lenVK t64 fun t65 =>
K.loopV (nat_lit 1000000) (fun s69 l66 m67 h68 => K.uncons l66 fun t70 l71 => K.uncons l71 fun t72 l73 => K.uncons l73 fun t74 l75 => K.uncons l75 fun t76 l77 => K.unnil l77 (
K.ltK (K.binV ctx .lss 3 false t76 t74) t76 t74 fun t78 =>
K.iteV t78 (
K.idxSK 1 t72 t76 fun t79 =>
K.ldK ctx 3 t79 h68 fun t80 =>
K.callFK run 106 [t80] h68 fun t81 h82 =>
K.slowK ctx run (K.opAt Go.Proofs.Tryz.f59 12 3) [43, 45] [t70, t81] h82 fun t83 h84 =>
K.addK (K.binV ctx .add 3 true t76 (.int .i64 (.ofNat 1))) t76 (.int .i64 (.ofNat 1)) fun t85 =>
s69 [t70, t72, t74, t85] m67 h84) (
j17 [t70] m67 h68))) [t59, t64, t65, (.int .i64 (.ofNat 0))] m56 h57)) fun j58 =>
K.fldK 1 t53 fun t86 =>
K.ldK ctx 4 t86 h49 fun t87 =>
K.iteV t87 (
K.slowK ctx run (K.opAt Go.Proofs.Tryz.f59 8 1) [35] [t51] h49 fun t88 h89 =>
j58 [t51, t53] m48 h89) (
j58 [t51, t53] m48 h49))) fun j50 =>
K.fldK 0 t44 fun t90 =>
K.ldK ctx 4 t90 h46 fun t91 =>
K.iteV t91 (
K.slowK ctx run (K.opAt Go.Proofs.Tryz.f59 6 1) [32] [t6] h46 fun t92 h93 =>
j50 [t6, t44] [] h93) (
j50 [t6, t44] [] h46))))) (
j17 [t6] [] h31))
end YtlmgehjkbgaknaaGreatDoorWkM
