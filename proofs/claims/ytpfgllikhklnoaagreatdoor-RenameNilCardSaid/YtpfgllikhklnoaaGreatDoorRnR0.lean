/- PRINTED BY Gen2.lean (own): functions as plain texts, part 0. -/
import Derived.Test.YtpfgllikhklnoaaGreatDoorRnCtx
namespace YtpfgllikhklnoaaGreatDoorRnM
open Go Am
set_option maxRecDepth 100000
noncomputable def r4 : K.KRun → List AV → H → K.KR := fun run args h => K.uncons args fun t0 l1 => K.uncons l1 fun t2 l3 => K.uncons l3 fun t4 l5 => K.unnil l5 (
K.boxK t0 h fun t6 h7 =>
K.callFK run 7 [(.int .u8 (.ofNat 3)), (.int .u8 (.ofNat 9))] h7 fun t8 h9 =>
K.allocK (K.zN ctx 23) (K.zT ctx 23) h9 fun t10 h11 =>
K.stsK 3 t10 t8 h11 fun h12 =>
K.ldsK ctx 23 3 t10 h12 fun t13 =>
K.callFK run 9 [t13] h12 fun t14 h15 =>
K.callFK run 8 [t14] h15 fun t16 h17 =>
K.eqK (K.binV ctx .eql 29 true t16 .nilPtr) t16 .nilPtr fun t18 =>
K.iteV t18 (
K.unmarkK [] h17 fun h19 => .ok (.bool false) h19) (
K.ldsK ctx 23 3 t6 h17 fun t20 =>
K.callFK run 17 [.nilPtr, t20, t2, t4] h17 fun t21 h22 =>
K.eqK (K.binV ctx .eql 24 true t21 (.int .i64 (.ofNat 2))) t21 (.int .i64 (.ofNat 2)) fun t23 =>
K.letK (fun (t24 : AV) (h25 : H) => K.letK (fun (t27 : AV) (h28 : H) => K.letK (fun (t30 : AV) (h31 : H) => K.letK (fun (t33 : AV) (h34 : H) => K.pickK t23 t33 (.bool false) fun t36 =>
K.letK (fun (t37 : AV) (h38 : H) => K.letK (fun (t40 : AV) (h41 : H) => K.letK (fun (t43 : AV) (h44 : H) => K.letK (fun (t46 : AV) (h47 : H) => K.pickK t36 t46 (.bool false) fun t49 =>
K.letK (fun (t50 : AV) (h51 : H) => K.letK (fun (t53 : AV) (h54 : H) => K.letK (fun (t56 : AV) (h57 : H) => K.letK (fun (t59 : AV) (h60 : H) => K.pickK t49 t59 (.bool false) fun t62 =>
K.letK (fun (t63 : AV) (h64 : H) => K.letK (fun (t66 : AV) (h67 : H) => K.letK (fun (t69 : AV) (h70 : H) => K.letK (fun (t72 : AV) (h73 : H) => K.pickK t62 t72 (.bool false) fun t75 =>
K.letK (fun (t76 : AV) (h77 : H) => K.pickK t75 t76 (.bool false) fun t79 =>
K.unmarkK [] h77 fun h80 => .ok t79 h80) fun j78 =>
K.guK true t75 (K.callFK run 18 [] h73 fun t81 h82 =>
j78 t81 h82) (j78 (.tup []) h73)) fun j74 =>
K.guK true t62 (K.eqK (K.binV ctx .eql 3 true t69 (.int .i64 (.ofNat 0))) t69 (.int .i64 (.ofNat 0)) fun t83 =>
j74 t83 h70) (j74 (.tup []) h70)) fun j71 =>
K.guK true t62 (K.lenVK t66 fun t84 =>
j71 t84 h67) (j71 (.tup []) h67)) fun j68 =>
K.guK true t62 (K.callFK run 15 [t63] h64 fun t85 h86 =>
j68 t85 h86) (j68 (.tup []) h64)) fun j65 =>
K.guK true t62 (j65 t16 h60) (j65 (.tup []) h60)) fun j61 =>
K.guK true t49 (K.eqK (K.binV ctx .eql 24 true t56 (.int .i64 (.ofNat 1))) t56 (.int .i64 (.ofNat 1)) fun t87 =>
j61 t87 h57) (j61 (.tup []) h57)) fun j58 =>
K.guK true t49 (K.callFK run 17 [t50, t53, (.str [47, 97]), (.str [47, 98])] h54 fun t88 h89 =>
j58 t88 h89) (j58 (.tup []) h54)) fun j55 =>
K.guK true t49 (K.bldSK ctx 23 [] fun t90 =>
j55 t90 h51) (j55 (.tup []) h51)) fun j52 =>
K.guK true t49 (j52 t16 h47) (j52 (.tup []) h47)) fun j48 =>
K.guK true t36 (K.eqK (K.binV ctx .eql 24 true t43 (.int .i64 (.ofNat 6))) t43 (.int .i64 (.ofNat 6)) fun t91 =>
j48 t91 h44) (j48 (.tup []) h44)) fun j45 =>
K.guK true t36 (K.callFK run 17 [t37, t40, (.str [47, 97]), (.str [47, 98])] h41 fun t92 h93 =>
j45 t92 h93) (j45 (.tup []) h41)) fun j42 =>
K.guK true t36 (K.ldsK ctx 23 3 t10 h38 fun t94 =>
j42 t94 h38) (j42 (.tup []) h38)) fun j39 =>
K.guK true t36 (j39 t16 h34) (j39 (.tup []) h34)) fun j35 =>
K.guK true t23 (K.eqK (K.binV ctx .eql 24 true t30 (.int .i64 (.ofNat 13))) t30 (.int .i64 (.ofNat 13)) fun t95 =>
j35 t95 h31) (j35 (.tup []) h31)) fun j32 =>
K.guK true t23 (K.callFK run 17 [t24, t27, (.str [47]), (.str [47, 97])] h28 fun t96 h97 =>
j32 t96 h97) (j32 (.tup []) h28)) fun j29 =>
K.guK true t23 (K.ldsK ctx 23 3 t10 h25 fun t98 =>
j29 t98 h25) (j29 (.tup []) h25)) fun j26 =>
K.guK true t23 (j26 t16 h22) (j26 (.tup []) h22)))
noncomputable def r6 : K.KRun → List AV → H → K.KR := fun run args h => K.uncons args fun t0 l1 => K.uncons l1 fun t2 l3 => K.uncons l3 fun t4 l5 => K.uncons l5 fun t6 l7 => K.unnil l7 (
K.boxK t0 h fun t8 h9 =>
K.boxK t2 h9 fun t10 h11 =>
K.ldK ctx 29 t8 h11 fun t12 =>
K.eqK (K.binV ctx .eql 29 true t12 .nilPtr) t12 .nilPtr fun t13 =>
K.iteV t13 (
K.unmarkK [] h11 fun h14 => .ok (.tup [(.int .i64 (.ofNat 0)), (.int .i64 (.ofNat 2))]) h14) (
K.neK (K.binV ctx .neq 27 true t6 (.int .u64 (.ofNat 1))) t6 (.int .u64 (.ofNat 1)) fun t15 =>
K.letK (fun (t16 : AV) (h17 : H) => K.letK (fun (t19 : AV) (h20 : H) => K.pickK t15 t19 (.bool false) fun t22 =>
K.iteV t22 (
K.unmarkK [] h20 fun h23 => .ok (.tup [(.int .i64 (.ofNat 0)), (.int .i64 (.ofNat 1))]) h23) (
K.ldK ctx 29 t8 h20 fun t24 =>
K.ldsK ctx 23 3 t10 h20 fun t25 =>
K.callFK run 25 [t24, t25, t4] h20 fun t26 h27 =>
K.extK t26 0 fun t28 =>
K.extK t26 1 fun t29 =>
K.extK t26 2 fun t30 =>
K.allocK (K.zN ctx 3) (K.zT ctx 3) h27 fun t31 h32 =>
K.allocK (K.zN ctx 9) (K.zT ctx 9) h32 fun t33 h34 =>
K.stK t31 t28 h34 fun h35 =>
K.stK t33 t29 h35 fun h36 =>
K.neK (K.binV ctx .neq 24 true t30 (.int .i64 (.ofNat 0))) t30 (.int .i64 (.ofNat 0)) fun t37 =>
K.iteV t37 (
K.unmarkK [] h36 fun h38 => .ok (.tup [(.int .i64 (.ofNat 0)), t30]) h38) (
K.ldK ctx 29 t8 h36 fun t39 =>
K.ldsK ctx 23 3 t10 h36 fun t40 =>
K.callFK run 26 [t39, t40] h36 fun t41 h42 =>
K.extK t41 0 fun t43 =>
K.extK t41 1 fun t44 =>
K.neK (K.binV ctx .neq 24 true t44 (.int .i64 (.ofNat 0))) t44 (.int .i64 (.ofNat 0)) fun t45 =>
K.iteV t45 (
K.unmarkK [] h42 fun h46 => .ok (.tup [(.int .i64 (.ofNat 0)), t44]) h46) (
K.callFK run 27 [t43] h42 fun t47 h48 =>
K.extK t47 0 fun t49 =>
K.extK t47 1 fun t50 =>
K.allocK (K.zN ctx 3) (K.zT ctx 3) h48 fun t51 h52 =>
K.stK t51 t49 h52 fun h53 =>
K.neK (K.binV ctx .neq 24 true t50 (.int .i64 (.ofNat 0))) t50 (.int .i64 (.ofNat 0)) fun t54 =>
K.iteV t54 (
K.unmarkK [] h53 fun h55 => .ok (.tup [(.int .i64 (.ofNat 0)), t50]) h55) (
K.bldSK ctx 58 [(0, t6), (1, (.int .u64 (.ofNat 1)))] fun t56 =>
K.allocK (K.zN ctx 58) (K.zT ctx 58) h53 fun t57 h58 =>
K.stsK 10 t57 t56 h58 fun h59 =>
K.letK (fun (l60 : List AV) (m61 : List Nat) (h62 : H) => K.uncons l60 fun t64 l65 => K.uncons l65 fun t66 l67 => K.uncons l67 fun t68 l69 => K.uncons l69 fun t70 l71 => K.uncons l71 fun t72 l73 => K.uncons l73 fun t74 l75 => K.unnil l75 (
K.bslK ctx 61 1 2 [(0, (.func (.func 29) [] [t64, t66, t72, t74])), (1, (.func (.func 31) [] [t64, t66, t68, t70, t72]))] h62 fun t76 h77 =>
K.callFK run 28 [t76] h77 fun t78 h79 =>
K.neK (K.binV ctx .neq 24 true t78 (.int .i64 (.ofNat 0))) t78 (.int .i64 (.ofNat 0)) fun t80 =>
K.iteV t80 (
K.unmarkK m61 h79 fun h81 => .ok (.tup [(.int .i64 (.ofNat 0)), t78]) h81) (
K.ldK ctx 3 t72 h79 fun t82 =>
K.unmarkK m61 h79 fun h83 => .ok (.tup [t82, (.int .i64 (.ofNat 0))]) h83))) fun j63 =>
K.eqK (K.binV ctx .eql 27 true t6 (.int .u64 (.ofNat 2))) t6 (.int .u64 (.ofNat 2)) fun t84 =>
K.iteV t84 (
K.ldK ctx 3 t31 h59 fun t85 =>
K.rK (convA ctx 3 27 t85 h59) fun t86 h87 =>
K.fldK 9 t57 fun t88 =>
K.stK t88 t86 h87 fun h89 =>
j63 [t8, t10, t31, t33, t51, t57] [] h89) (
j63 [t8, t10, t31, t33, t51, t57] [] h59)))))) fun j21 =>
K.guK true t15 (K.neK (K.binV ctx .neq 27 true t16 (.int .u64 (.ofNat 2))) t16 (.int .u64 (.ofNat 2)) fun t90 =>
j21 t90 h17) (j21 (.tup []) h17)) fun j18 =>
K.guK true t15 (j18 t6 h11) (j18 (.tup []) h11)))
noncomputable def r7 : K.KRun → List AV → H → K.KR := fun run args h => K.uncons args fun t0 l1 => K.uncons l1 fun t2 l3 => K.unnil l3 (
K.allocK (K.zN ctx 23) (K.zT ctx 23) h fun t4 h5 =>
K.rK (convA ctx 5 3 t0 h5) fun t6 h7 =>
K.oK (K.binV ctx .rem 3 true t6 (.int .i64 (.ofNat 20))) fun t8 =>
K.addK (K.binV ctx .add 3 true (.int .i64 (.ofNat 2)) t8) (.int .i64 (.ofNat 2)) t8 fun t9 =>
K.rK (convA ctx 5 3 t2 h7) fun t10 h11 =>
K.oK (K.binV ctx .rem 3 true t10 (.int .i64 (.ofNat 60))) fun t12 =>
K.addK (K.binV ctx .add 3 true (.int .i64 (.ofNat 2)) t12) (.int .i64 (.ofNat 2)) t12 fun t13 =>
K.bldSK ctx 23 [(0, (.int .i64 (.ofNat 1))), (1, t9), (2, t13)] fun t14 =>
K.stsK 3 t4 t14 h11 fun h15 =>
K.unmarkK [] h15 fun h16 => K.asPtr t4 fun n17 n18 => K.loads h16 n17 n18 3 fun t19 => .ok (.agg t19) h16)
noncomputable def r8 : K.KRun → List AV → H → K.KR := fun run args h => K.uncons args fun t0 l1 => K.unnil l1 (
K.callFK run 33 [t0] h fun t2 h3 =>
K.slowK ctx run (K.opAt Go.Proofs.Tryz.f8 1 2) [] [] h3 fun t4 h5 =>
K.bldSK ctx 69 [(0, t2), (1, t4)] fun t6 =>
K.boxK t6 h5 fun t7 h8 =>
K.unmarkK [] h8 fun h9 => .ok t7 h9)
noncomputable def r9 : K.KRun → List AV → H → K.KR := fun run args h => K.uncons args fun t0 l1 => K.unnil l1 (
K.boxK t0 h fun t2 h3 =>
K.ldsK ctx 33 3 t2 h3 fun t4 =>
K.callFK run 34 [t4] h3 fun t5 h6 =>
K.notK t5 fun t7 =>
K.iteV t7 (
K.unmarkK [] h6 fun h8 => .ok .nilSlice h8) (
K.ldsK ctx 33 3 t2 h6 fun t9 =>
K.callFK run 35 [t9] h6 fun t10 h11 =>
K.mslK ctx 27 1 t10 t10 h11 fun t12 h13 =>
K.idxSK 1 t12 (.int .i64 (.ofNat 0)) fun t14 =>
K.stK t14 (.int .u64 (.ofNat 32762617960297063)) h13 fun h15 =>
K.fldK 0 t2 fun t16 =>
K.ldK ctx 3 t16 h15 fun t17 =>
K.rK (convA ctx 3 27 t17 h15) fun t18 h19 =>
K.idxSK 1 t12 (.int .i64 (.ofNat 1)) fun t20 =>
K.stK t20 t18 h19 fun h21 =>
K.fldK 1 t2 fun t22 =>
K.ldK ctx 3 t22 h21 fun t23 =>
K.rK (convA ctx 3 27 t23 h21) fun t24 h25 =>
K.idxSK 1 t12 (.int .i64 (.ofNat 2)) fun t26 =>
K.stK t26 t24 h25 fun h27 =>
K.fldK 2 t2 fun t28 =>
K.ldK ctx 3 t28 h27 fun t29 =>
K.rK (convA ctx 3 27 t29 h27) fun t30 h31 =>
K.idxSK 1 t12 (.int .i64 (.ofNat 3)) fun t32 =>
K.stK t32 t30 h31 fun h33 =>
K.ldsK ctx 33 3 t2 h33 fun t34 =>
K.callFK run 36 [t34] h33 fun t35 h36 =>
K.idxSK 1 t12 t35 fun t37 =>
K.stK t37 (.int .u64 (.ofNat 3)) h36 fun h38 =>
K.ldsK ctx 33 3 t2 h38 fun t39 =>
K.callFK run 37 [t39] h38 fun t40 h41 =>
K.idxSK 1 t12 t40 fun t42 =>
K.stK t42 (.int .u64 (.ofNat 1)) h41 fun h43 =>
K.ldsK ctx 33 3 t2 h43 fun t44 =>
K.callFK run 38 [t44, (.int .i64 (.ofNat 1))] h43 fun t45 h46 =>
K.idxSK 1 t12 t45 fun t47 =>
K.stK t47 (.int .u64 (.ofNat 2)) h46 fun h48 =>
K.ldsK ctx 33 3 t2 h48 fun t49 =>
K.callFK run 38 [t49, (.int .i64 (.ofNat 1))] h48 fun t50 h51 =>
K.addK (K.binV ctx .add 3 true t50 (.int .i64 (.ofNat 1))) t50 (.int .i64 (.ofNat 1)) fun t52 =>
K.idxSK 1 t12 t52 fun t53 =>
K.stK t53 (.int .u64 (.ofNat 1)) h51 fun h54 =>
K.unmarkK [] h54 fun h55 => .ok t12 h55))
noncomputable def r15 : K.KRun → List AV → H → K.KR := fun run args h => K.uncons args fun t0 l1 => K.unnil l1 (
K.eqK (K.binV ctx .eql 29 true t0 .nilPtr) t0 .nilPtr fun t2 =>
K.iteV t2 (
K.unmarkK [] h fun h3 => .ok .nilSlice h3) (
K.letK (fun (l4 : List AV) (m5 : List Nat) (h6 : H) => K.uncons l4 fun t8 l9 => K.unnil l9 (
K.unmarkK m5 h6 fun h10 => .ok t8 h10)) fun j7 =>
K.nilK t0 fun t11 =>
K.fldK 2 t11 fun t12 =>
K.ldK ctx 67 t12 h fun t13 =>
K.lenVK t13 fun t14 =>
K.loopV (nat_lit 1000000) (fun s18 l15 m16 h17 => K.uncons l15 fun t19 l20 => K.uncons l20 fun t21 l22 => K.uncons l22 fun t23 l24 => K.uncons l24 fun t25 l26 => K.uncons l26 fun t27 l28 => K.unnil l28 (
K.ltK (K.binV ctx .lss 3 false t27 t25) t27 t25 fun t29 =>
K.iteV t29 (
K.idxSK 1 t23 t27 fun t30 =>
K.ldK ctx 3 t30 h17 fun t31 =>
K.nilK t19 fun t32 =>
K.fldK 1 t32 fun t33 =>
K.ldK ctx 66 t33 h17 fun t34 =>
K.slowK ctx run (K.opAt Go.Proofs.Tryz.f15 6 7) [21, 22] [t34, t31] h17 fun t35 h36 =>
K.bldSK ctx 90 [(0, t31), (1, t35)] fun t37 =>
K.bslK ctx 90 2 1 [(0, t37)] h36 fun t38 h39 =>
K.appK ctx 90 2 t21 t38 h39 fun t40 h41 =>
K.addK (K.binV ctx .add 3 true t27 (.int .i64 (.ofNat 1))) t27 (.int .i64 (.ofNat 1)) fun t42 =>
s18 [t19, t40, t23, t25, t42] m16 h41) (
j7 [t21] m16 h17))) [t0, .nilSlice, t13, t14, (.int .i64 (.ofNat 0))] [] h))
noncomputable def r17 : K.KRun → List AV → H → K.KR := fun run args h => K.uncons args fun t0 l1 => K.uncons l1 fun t2 l3 => K.uncons l3 fun t4 l5 => K.uncons l5 fun t6 l7 => K.unnil l7 (
K.boxK t2 h fun t8 h9 =>
K.ldsK ctx 23 3 t8 h9 fun t10 =>
K.callFK run 58 [t0, t10, t4] h9 fun t11 h12 =>
K.extK t11 0 fun t13 =>
K.extK t11 1 fun t14 =>
K.allocK (K.zN ctx 92) (K.zT ctx 92) h12 fun t15 h16 =>
K.stsK 14 t15 t13 h16 fun h17 =>
K.neK (K.binV ctx .neq 24 true t14 (.int .i64 (.ofNat 0))) t14 (.int .i64 (.ofNat 0)) fun t18 =>
K.iteV t18 (
K.unmarkK [] h17 fun h19 => .ok t14 h19) (
K.ldsK ctx 23 3 t8 h17 fun t20 =>
K.fldK 3 t15 fun t21 =>
K.ldK ctx 3 t21 h17 fun t22 =>
K.callFK run 40 [t0, t20, t22] h17 fun t23 h24 =>
K.extK t23 0 fun t25 =>
K.extK t23 1 fun t26 =>
K.fldK 4 t15 fun t27 =>
K.stsK 10 t27 t25 h24 fun h28 =>
K.neK (K.binV ctx .neq 24 true t26 (.int .i64 (.ofNat 0))) t26 (.int .i64 (.ofNat 0)) fun t29 =>
K.iteV t29 (
K.unmarkK [] h28 fun h30 => .ok t26 h30) (
K.ldsK ctx 23 3 t8 h28 fun t31 =>
K.callFK run 58 [t0, t31, t6] h28 fun t32 h33 =>
K.extK t32 0 fun t34 =>
K.extK t32 1 fun t35 =>
K.allocK (K.zN ctx 92) (K.zT ctx 92) h33 fun t36 h37 =>
K.stsK 14 t36 t34 h37 fun h38 =>
K.letK (fun (l39 : List AV) (m40 : List Nat) (h41 : H) => K.uncons l39 fun t43 l44 => K.uncons l44 fun t45 l46 => K.uncons l46 fun t47 l48 => K.uncons l48 fun t49 l50 => K.unnil l50 (
K.ldsK ctx 23 3 t45 h41 fun t51 =>
K.ldsK ctx 92 14 t47 h41 fun t52 =>
K.ldsK ctx 92 14 t49 h41 fun t53 =>
K.bldSK ctx 96 [(0, t43), (1, t51), (2, t52), (3, t53)] fun t54 =>
K.allocK (K.zN ctx 96) (K.zT ctx 96) h41 fun t55 h56 =>
K.stsK 32 t55 t54 h56 fun h57 =>
K.bslK ctx 61 1 5 [(0, (.func (.func 60) [] [t55])), (1, (.func (.func 62) [] [t55])), (2, (.func (.func 64) [] [t55])), (3, (.func (.func 66) [] [t55])), (4, (.func (.func 68) [] [t55]))] h57 fun t58 h59 =>
K.callFK run 59 [t58] h59 fun t60 h61 =>
K.unmarkK m40 h61 fun h62 => .ok t60 h62)) fun j42 =>
K.neK (K.binV ctx .neq 24 true t35 (.int .i64 (.ofNat 0))) t35 (.int .i64 (.ofNat 0)) fun t63 =>
K.letK (fun (t64 : AV) (h65 : H) => K.letK (fun (t67 : AV) (h68 : H) => K.letK (fun (t70 : AV) (h71 : H) => K.letK (fun (t73 : AV) (h74 : H) => K.letK (fun (t76 : AV) (h77 : H) => K.letK (fun (t79 : AV) (h80 : H) => K.letK (fun (t82 : AV) (h83 : H) => K.pickK t63 t82 (.bool false) fun t85 =>
K.iteV t85 (
K.unmarkK [] h83 fun h86 => .ok t35 h86) (
K.fldK 2 t36 fun t87 =>
K.ldK ctx 4 t87 h83 fun t88 =>
K.letK (fun (t89 : AV) (h90 : H) => K.letK (fun (t92 : AV) (h93 : H) => K.letK (fun (t95 : AV) (h96 : H) => K.letK (fun (t98 : AV) (h99 : H) => K.letK (fun (t101 : AV) (h102 : H) => K.pickK t88 t101 (.bool false) fun t104 =>
K.iteV t104 (
K.unmarkK [] h102 fun h105 => .ok (.int .i64 (.ofNat 0)) h105) (
K.fldK 2 t36 fun t106 =>
K.ldK ctx 4 t106 h102 fun t107 =>
K.iteV t107 (
K.ldsK ctx 23 3 t8 h102 fun t108 =>
K.fldK 3 t36 fun t109 =>
K.ldK ctx 3 t109 h102 fun t110 =>
K.callFK run 40 [t0, t108, t110] h102 fun t111 h112 =>
K.extK t111 0 fun t113 =>
K.extK t111 1 fun t114 =>
K.fldK 4 t36 fun t115 =>
K.stsK 10 t115 t113 h112 fun h116 =>
K.neK (K.binV ctx .neq 24 true t114 (.int .i64 (.ofNat 0))) t114 (.int .i64 (.ofNat 0)) fun t117 =>
K.iteV t117 (
K.unmarkK [] h116 fun h118 => .ok t114 h118) (
j42 [t0, t8, t15, t36] [] h116)) (
j42 [t0, t8, t15, t36] [] h102))) fun j103 =>
K.guK true t88 (K.eqK (K.binV ctx .eql 3 false t92 t98) t92 t98 fun t119 =>
j103 t119 h99) (j103 (.tup []) h99)) fun j100 =>
K.guK true t88 (K.ldK ctx 3 t95 h96 fun t120 =>
j100 t120 h96) (j100 (.tup []) h96)) fun j97 =>
K.guK true t88 (K.fldK 3 t15 fun t121 =>
j97 t121 h93) (j97 (.tup []) h93)) fun j94 =>
K.guK true t88 (K.ldK ctx 3 t89 h90 fun t122 =>
j94 t122 h90) (j94 (.tup []) h90)) fun j91 =>
K.guK true t88 (K.fldK 3 t36 fun t123 =>
j91 t123 h83) (j91 (.tup []) h83))) fun j84 =>
K.guK true t63 (K.pickK t70 (.bool true) t79 fun t124 =>
j84 t124 h80) (j84 (.tup []) h80)) fun j81 =>
K.guK false t70 (K.eqK (K.binV ctx .eql 3 true t76 (.int .i64 (.ofNat 0))) t76 (.int .i64 (.ofNat 0)) fun t125 =>
j81 t125 h77) (j81 (.tup []) h77)) fun j78 =>
K.guK false t70 (K.ldK ctx 3 t73 h74 fun t126 =>
j78 t126 h74) (j78 (.tup []) h74)) fun j75 =>
K.guK false t70 (K.fldK 0 t36 fun t127 =>
j75 t127 h71) (j75 (.tup []) h71)) fun j72 =>
K.guK true t63 (j72 t67 h68) (j72 (.tup []) h68)) fun j69 =>
K.guK true t63 (K.neK (K.binV ctx .neq 24 true t64 (.int .i64 (.ofNat 6))) t64 (.int .i64 (.ofNat 6)) fun t128 =>
j69 t128 h65) (j69 (.tup []) h65)) fun j66 =>
K.guK true t63 (j66 t35 h38) (j66 (.tup []) h38))))
noncomputable def r18 : K.KRun → List AV → H → K.KR := fun run args h => K.unnil args (
K.bldSK ctx 23 [(0, (.int .i64 (.ofNat 1))), (1, (.int .i64 (.ofNat 9))), (2, (.int .i64 (.ofNat 30)))] fun t0 =>
K.allocK (K.zN ctx 23) (K.zT ctx 23) h fun t1 h2 =>
K.stsK 3 t1 t0 h2 fun h3 =>
K.ldsK ctx 23 3 t1 h3 fun t4 =>
K.callFK run 9 [t4] h3 fun t5 h6 =>
K.callFK run 8 [t5] h6 fun t7 h8 =>
K.eqK (K.binV ctx .eql 29 true t7 .nilPtr) t7 .nilPtr fun t9 =>
K.iteV t9 (
K.unmarkK [] h8 fun h10 => .ok (.bool false) h10) (
K.ldsK ctx 23 3 t1 h8 fun t11 =>
K.callFK run 6 [t7, t11, (.str [47, 100]), (.int .u64 (.ofNat 2))] h8 fun t12 h13 =>
K.extK t12 0 fun t14 =>
K.extK t12 1 fun t15 =>
K.ldsK ctx 23 3 t1 h13 fun t16 =>
K.callFK run 6 [t7, t16, (.str [47, 100, 47, 101]), (.int .u64 (.ofNat 2))] h13 fun t17 h18 =>
K.extK t17 0 fun t19 =>
K.extK t17 1 fun t20 =>
K.ldsK ctx 23 3 t1 h18 fun t21 =>
K.callFK run 6 [t7, t21, (.str [47, 102]), (.int .u64 (.ofNat 1))] h18 fun t22 h23 =>
K.extK t22 0 fun t24 =>
K.extK t22 1 fun t25 =>
K.ldsK ctx 23 3 t1 h23 fun t26 =>
K.callFK run 17 [t7, t26, (.str [47, 100]), (.str [47, 100, 47, 101, 47, 120])] h23 fun t27 h28 =>
K.ldsK ctx 23 3 t1 h28 fun t29 =>
K.callFK run 17 [t7, t29, (.str [47, 102]), (.str [47, 100])] h28 fun t30 h31 =>
K.ldsK ctx 23 3 t1 h31 fun t32 =>
K.callFK run 17 [t7, t32, (.str [47, 100]), (.str [47, 102])] h31 fun t33 h34 =>
K.ldsK ctx 23 3 t1 h34 fun t35 =>
K.callFK run 17 [t7, t35, (.str [47, 102]), (.str [47, 100, 47, 101, 47, 103])] h34 fun t36 h37 =>
K.ldsK ctx 23 3 t1 h37 fun t38 =>
K.callFK run 17 [t7, t38, (.str [47, 100, 47, 101]), (.str [47, 101])] h37 fun t39 h40 =>
K.ldsK ctx 23 3 t1 h40 fun t41 =>
K.callFK run 39 [t7, t41, (.str [47, 101, 47, 103])] h40 fun t42 h43 =>
K.extK t42 0 fun t44 =>
K.extK t42 1 fun t45 =>
K.ldsK ctx 23 3 t1 h43 fun t46 =>
K.callFK run 17 [t7, t46, (.str [47, 101]), (.str [47, 101])] h43 fun t47 h48 =>
K.eqK (K.binV ctx .eql 24 true t15 (.int .i64 (.ofNat 0))) t15 (.int .i64 (.ofNat 0)) fun t49 =>
K.letK (fun (t50 : AV) (h51 : H) => K.letK (fun (t53 : AV) (h54 : H) => K.pickK t49 t53 (.bool false) fun t56 =>
K.letK (fun (t57 : AV) (h58 : H) => K.letK (fun (t60 : AV) (h61 : H) => K.pickK t56 t60 (.bool false) fun t63 =>
K.letK (fun (t64 : AV) (h65 : H) => K.letK (fun (t67 : AV) (h68 : H) => K.pickK t63 t67 (.bool false) fun t70 =>
K.letK (fun (t71 : AV) (h72 : H) => K.letK (fun (t74 : AV) (h75 : H) => K.pickK t70 t74 (.bool false) fun t77 =>
K.letK (fun (t78 : AV) (h79 : H) => K.letK (fun (t81 : AV) (h82 : H) => K.pickK t77 t81 (.bool false) fun t84 =>
K.letK (fun (t85 : AV) (h86 : H) => K.letK (fun (t88 : AV) (h89 : H) => K.pickK t84 t88 (.bool false) fun t91 =>
K.letK (fun (t92 : AV) (h93 : H) => K.letK (fun (t95 : AV) (h96 : H) => K.pickK t91 t95 (.bool false) fun t98 =>
K.letK (fun (t99 : AV) (h100 : H) => K.letK (fun (t102 : AV) (h103 : H) => K.pickK t98 t102 (.bool false) fun t105 =>
K.letK (fun (t106 : AV) (h107 : H) => K.letK (fun (t109 : AV) (h110 : H) => K.letK (fun (t112 : AV) (h113 : H) => K.pickK t105 t112 (.bool false) fun t115 =>
K.letK (fun (t116 : AV) (h117 : H) => K.letK (fun (t119 : AV) (h120 : H) => K.pickK t115 t119 (.bool false) fun t122 =>
K.unmarkK [] h120 fun h123 => .ok t122 h123) fun j121 =>
K.guK true t115 (K.eqK (K.binV ctx .eql 24 true t116 (.int .i64 (.ofNat 0))) t116 (.int .i64 (.ofNat 0)) fun t124 =>
j121 t124 h117) (j121 (.tup []) h117)) fun j118 =>
K.guK true t115 (j118 t47 h113) (j118 (.tup []) h113)) fun j114 =>
K.guK true t105 (K.eqK (K.binV ctx .eql 3 false t106 t109) t106 t109 fun t125 =>
j114 t125 h110) (j114 (.tup []) h110)) fun j111 =>
K.guK true t105 (j111 t24 h107) (j111 (.tup []) h107)) fun j108 =>
K.guK true t105 (j108 t44 h103) (j108 (.tup []) h103)) fun j104 =>
K.guK true t98 (K.eqK (K.binV ctx .eql 24 true t99 (.int .i64 (.ofNat 0))) t99 (.int .i64 (.ofNat 0)) fun t126 =>
j104 t126 h100) (j104 (.tup []) h100)) fun j101 =>
K.guK true t98 (j101 t45 h96) (j101 (.tup []) h96)) fun j97 =>
K.guK true t91 (K.eqK (K.binV ctx .eql 24 true t92 (.int .i64 (.ofNat 0))) t92 (.int .i64 (.ofNat 0)) fun t127 =>
j97 t127 h93) (j97 (.tup []) h93)) fun j94 =>
K.guK true t91 (j94 t39 h89) (j94 (.tup []) h89)) fun j90 =>
K.guK true t84 (K.eqK (K.binV ctx .eql 24 true t85 (.int .i64 (.ofNat 0))) t85 (.int .i64 (.ofNat 0)) fun t128 =>
j90 t128 h86) (j90 (.tup []) h86)) fun j87 =>
K.guK true t84 (j87 t36 h82) (j87 (.tup []) h82)) fun j83 =>
K.guK true t77 (K.eqK (K.binV ctx .eql 24 true t78 (.int .i64 (.ofNat 10))) t78 (.int .i64 (.ofNat 10)) fun t129 =>
j83 t129 h79) (j83 (.tup []) h79)) fun j80 =>
K.guK true t77 (j80 t33 h75) (j80 (.tup []) h75)) fun j76 =>
K.guK true t70 (K.eqK (K.binV ctx .eql 24 true t71 (.int .i64 (.ofNat 11))) t71 (.int .i64 (.ofNat 11)) fun t130 =>
j76 t130 h72) (j76 (.tup []) h72)) fun j73 =>
K.guK true t70 (j73 t30 h68) (j73 (.tup []) h68)) fun j69 =>
K.guK true t63 (K.eqK (K.binV ctx .eql 24 true t64 (.int .i64 (.ofNat 17))) t64 (.int .i64 (.ofNat 17)) fun t131 =>
j69 t131 h65) (j69 (.tup []) h65)) fun j66 =>
K.guK true t63 (j66 t27 h61) (j66 (.tup []) h61)) fun j62 =>
K.guK true t56 (K.eqK (K.binV ctx .eql 24 true t57 (.int .i64 (.ofNat 0))) t57 (.int .i64 (.ofNat 0)) fun t132 =>
j62 t132 h58) (j62 (.tup []) h58)) fun j59 =>
K.guK true t56 (j59 t25 h54) (j59 (.tup []) h54)) fun j55 =>
K.guK true t49 (K.eqK (K.binV ctx .eql 24 true t50 (.int .i64 (.ofNat 0))) t50 (.int .i64 (.ofNat 0)) fun t133 =>
j55 t133 h51) (j55 (.tup []) h51)) fun j52 =>
K.guK true t49 (j52 t20 h48) (j52 (.tup []) h48)))
noncomputable def r25 : K.KRun → List AV → H → K.KR := fun run args h => K.uncons args fun t0 l1 => K.uncons l1 fun t2 l3 => K.uncons l3 fun t4 l5 => K.unnil l5 (
K.boxK t2 h fun t6 h7 =>
K.ldsK ctx 23 3 t6 h7 fun t8 =>
K.callFK run 75 [t0, t8, t4] h7 fun t9 h10 =>
K.extK t9 0 fun t11 =>
K.extK t9 1 fun t12 =>
K.extK t9 2 fun t13 =>
K.neK (K.binV ctx .neq 24 true t13 (.int .i64 (.ofNat 0))) t13 (.int .i64 (.ofNat 0)) fun t14 =>
K.iteV t14 (
K.unmarkK [] h10 fun h15 => .ok (.tup [(.int .i64 (.ofNat 0)), (.str []), t13]) h15) (
K.ldsK ctx 23 3 t6 h10 fun t16 =>
K.callFK run 76 [t0, t16, t11, t12] h10 fun t17 h18 =>
K.extK t17 0 fun t19 =>
K.extK t17 1 fun t20 =>
K.extK t17 2 fun t21 =>
K.allocK (K.zN ctx 64) (K.zT ctx 64) h18 fun t22 h23 =>
K.stsK 2 t22 t19 h23 fun h24 =>
K.eqK (K.binV ctx .eql 24 true t21 (.int .i64 (.ofNat 6))) t21 (.int .i64 (.ofNat 6)) fun t25 =>
K.iteV t25 (
K.unmarkK [] h24 fun h26 => .ok (.tup [t11, t12, (.int .i64 (.ofNat 0))]) h26) (
K.eqK (K.binV ctx .eql 24 true t21 (.int .i64 (.ofNat 0))) t21 (.int .i64 (.ofNat 0)) fun t27 =>
K.iteV t27 (
K.unmarkK [] h24 fun h28 => .ok (.tup [(.int .i64 (.ofNat 0)), (.str []), (.int .i64 (.ofNat 9))]) h28) (
K.unmarkK [] h24 fun h29 => .ok (.tup [(.int .i64 (.ofNat 0)), (.str []), t21]) h29))))
noncomputable def r26 : K.KRun → List AV → H → K.KR := fun run args h => K.uncons args fun t0 l1 => K.uncons l1 fun t2 l3 => K.unnil l3 (
K.boxK t2 h fun t4 h5 =>
K.eqK (K.binV ctx .eql 29 true t0 .nilPtr) t0 .nilPtr fun t6 =>
K.iteV t6 (
K.unmarkK [] h5 fun h7 => .ok (.tup [.nilPtr, (.int .i64 (.ofNat 2))]) h7) (
K.ldsK ctx 23 3 t4 h5 fun t8 =>
K.callFK run 77 [t8] h5 fun t9 h10 =>
K.notK t9 fun t11 =>
K.iteV t11 (
K.unmarkK [] h10 fun h12 => .ok (.tup [.nilPtr, (.int .i64 (.ofNat 1))]) h12) (
K.ldsK ctx 23 3 t4 h10 fun t13 =>
K.callFK run 78 [t0] h10 fun t14 h15 =>
K.ldsK ctx 23 3 t4 h15 fun t16 =>
K.req (AV.same t13 t16) (
K.callFK run 79 [t13] h15 fun t17 h18 =>
K.ltK (K.binV ctx .lss 3 false t14 t17) t14 t17 fun t19 =>
K.iteV t19 (
K.unmarkK [] h18 fun h20 => .ok (.tup [.nilPtr, (.int .i64 (.ofNat 8))]) h20) (
K.ldsK ctx 23 3 t4 h18 fun t21 =>
K.fldK 1 t4 fun t22 =>
K.ldK ctx 3 t22 h18 fun t23 =>
K.callFK run 81 [t21] h18 fun t24 h25 =>
K.ldK ctx 3 t22 h25 fun t26 =>
K.req (AV.same t23 t26) (
K.callFK run 80 [t0, t24, t23] h25 fun t27 h28 =>
K.extK t27 0 fun t29 =>
K.extK t27 1 fun t30 =>
K.neK (K.binV ctx .neq 24 true t30 (.int .i64 (.ofNat 0))) t30 (.int .i64 (.ofNat 0)) fun t31 =>
K.iteV t31 (
K.unmarkK [] h28 fun h32 => .ok (.tup [.nilPtr, t30]) h32) (
K.ldsK ctx 23 3 t4 h28 fun t33 =>
K.fldK 2 t4 fun t34 =>
K.ldK ctx 3 t34 h28 fun t35 =>
K.callFK run 82 [t33] h28 fun t36 h37 =>
K.ldK ctx 3 t34 h37 fun t38 =>
K.req (AV.same t35 t38) (
K.callFK run 80 [t0, t36, t35] h37 fun t39 h40 =>
K.extK t39 0 fun t41 =>
K.extK t39 1 fun t42 =>
K.neK (K.binV ctx .neq 24 true t42 (.int .i64 (.ofNat 0))) t42 (.int .i64 (.ofNat 0)) fun t43 =>
K.iteV t43 (
K.unmarkK [] h40 fun h44 => .ok (.tup [.nilPtr, t42]) h44) (
K.ldsK ctx 23 3 t4 h40 fun t45 =>
K.fldK 1 t4 fun t46 =>
K.ldK ctx 3 t46 h40 fun t47 =>
K.bldSK ctx 112 [(0, t29), (1, t47)] fun t48 =>
K.fldK 2 t4 fun t49 =>
K.ldK ctx 3 t49 h40 fun t50 =>
K.bldSK ctx 112 [(0, t41), (1, t50)] fun t51 =>
K.bldSK ctx 114 [(0, t0), (1, t45), (2, t48), (3, t51)] fun t52 =>
K.boxK t52 h40 fun t53 h54 =>
K.unmarkK [] h54 fun h55 => .ok (.tup [t53, (.int .i64 (.ofNat 0))]) h55)))))))))
noncomputable def r27 : K.KRun → List AV → H → K.KR := fun run args h => K.uncons args fun t0 l1 => K.unnil l1 (
K.eqK (K.binV ctx .eql 52 true t0 .nilPtr) t0 .nilPtr fun t2 =>
K.iteV t2 (
K.unmarkK [] h fun h3 => .ok (.tup [(.int .i64 (.ofNat 0)), (.int .i64 (.ofNat 2))]) h3) (
K.nilK t0 fun t4 =>
K.fldK 4 t4 fun t5 =>
K.ldsK ctx 112 2 t5 h fun t6 =>
K.callFK run 83 [t0, t6, .nilFunc] h fun t7 h8 =>
K.extK t7 0 fun t9 =>
K.extK t7 1 fun t10 =>
K.unmarkK [] h8 fun h11 => .ok (.tup [t9, t10]) h11))
noncomputable def r28 : K.KRun → List AV → H → K.KR := fun run args h => K.uncons args fun t0 l1 => K.unnil l1 (
K.letK (fun (l2 : List AV) (m3 : List Nat) (h4 : H) => K.unnil l2 (
K.unmarkK m3 h4 fun h6 => .ok (.int .i64 (.ofNat 0)) h6)) fun j5 =>
K.lenVK t0 fun t7 =>
K.loopV (nat_lit 1000000) (fun s11 l8 m9 h10 => K.uncons l8 fun t12 l13 => K.uncons l13 fun t14 l15 => K.uncons l15 fun t16 l17 => K.unnil l17 (
K.ltK (K.binV ctx .lss 3 false t16 t14) t16 t14 fun t18 =>
K.iteV t18 (
K.idxSK 1 t12 t16 fun t19 =>
K.ldK ctx 61 t19 h10 fun t20 =>
K.callVK run t20 [] h10 fun t21 h22 =>
K.neK (K.binV ctx .neq 24 true t21 (.int .i64 (.ofNat 0))) t21 (.int .i64 (.ofNat 0)) fun t23 =>
K.iteV t23 (
K.unmarkK m9 h22 fun h24 => .ok t21 h24) (
K.addK (K.binV ctx .add 3 true t16 (.int .i64 (.ofNat 1))) t16 (.int .i64 (.ofNat 1)) fun t25 =>
s11 [t12, t14, t25] m9 h22)) (
j5 [] m9 h10))) [t0, t7, (.int .i64 (.ofNat 0))] [] h)
noncomputable def r29 : K.KRun → List AV → H → K.KR := fun run args h => K.uncons args fun t0 l1 => K.uncons l1 fun t2 l3 => K.uncons l3 fun t4 l5 => K.uncons l5 fun t6 l7 => K.unnil l7 (
K.ldK ctx 29 t0 h fun t8 =>
K.ldsK ctx 23 3 t2 h fun t9 =>
K.ldK ctx 3 t4 h fun t10 =>
K.ldsK ctx 58 10 t6 h fun t11 =>
K.callFK run 30 [t8, t9, t10, t11] h fun t12 h13 =>
K.unmarkK [] h13 fun h14 => .ok t12 h14)
noncomputable def r30 : K.KRun → List AV → H → K.KR := fun run args h => K.uncons args fun t0 l1 => K.uncons l1 fun t2 l3 => K.uncons l3 fun t4 l5 => K.uncons l5 fun t6 l7 => K.unnil l7 (
K.boxK t2 h fun t8 h9 =>
K.boxK t6 h9 fun t10 h11 =>
K.ldsK ctx 23 3 t8 h11 fun t12 =>
K.callFK run 84 [t0, t12, t4] h11 fun t13 h14 =>
K.extK t13 0 fun t15 =>
K.extK t13 1 fun t16 =>
K.eqK (K.binV ctx .eql 24 true t16 (.int .i64 (.ofNat 2))) t16 (.int .i64 (.ofNat 2)) fun t17 =>
K.iteV t17 (
K.unmarkK [] h14 fun h18 => .ok t16 h18) (
K.ldsK ctx 23 3 t8 h14 fun t19 =>
K.ldsK ctx 58 10 t10 h14 fun t20 =>
K.callFK run 85 [t19, t20] h14 fun t21 h22 =>
K.notK t21 fun t23 =>
K.iteV t23 (
K.unmarkK [] h22 fun h24 => .ok (.int .i64 (.ofNat 1)) h24) (
K.neK (K.binV ctx .neq 24 true t16 (.int .i64 (.ofNat 0))) t16 (.int .i64 (.ofNat 0)) fun t25 =>
K.iteV t25 (
K.unmarkK [] h22 fun h26 => .ok t16 h26) (
K.ldsK ctx 58 10 t10 h22 fun t27 =>
K.callFK run 87 [t27] h22 fun t28 h29 =>
K.callFK run 86 [t0, t15, t28] h29 fun t30 h31 =>
K.unmarkK [] h31 fun h32 => .ok t30 h32))))
noncomputable def r31 : K.KRun → List AV → H → K.KR := fun run args h => K.uncons args fun t0 l1 => K.uncons l1 fun t2 l3 => K.uncons l3 fun t4 l5 => K.uncons l5 fun t6 l7 => K.uncons l7 fun t8 l9 => K.unnil l9 (
K.ldK ctx 29 t0 h fun t10 =>
K.ldsK ctx 23 3 t2 h fun t11 =>
K.ldK ctx 3 t4 h fun t12 =>
K.ldK ctx 9 t6 h fun t13 =>
K.ldK ctx 3 t8 h fun t14 =>
K.bldSK ctx 64 [(0, t13), (1, t14)] fun t15 =>
K.callFK run 32 [t10, t11, t12, t15] h fun t16 h17 =>
K.unmarkK [] h17 fun h18 => .ok t16 h18)
noncomputable def r32 : K.KRun → List AV → H → K.KR := fun run args h => K.uncons args fun t0 l1 => K.uncons l1 fun t2 l3 => K.uncons l3 fun t4 l5 => K.uncons l5 fun t6 l7 => K.unnil l7 (
K.boxK t2 h fun t8 h9 =>
K.boxK t6 h9 fun t10 h11 =>
K.ldsK ctx 23 3 t8 h11 fun t12 =>
K.ldsK ctx 64 2 t10 h11 fun t13 =>
K.callFK run 88 [t0, t12, t13] h11 fun t14 h15 =>
K.neK (K.binV ctx .neq 24 true t14 (.int .i64 (.ofNat 0))) t14 (.int .i64 (.ofNat 0)) fun t16 =>
K.iteV t16 (
K.unmarkK [] h15 fun h17 => .ok t14 h17) (
K.ldsK ctx 23 3 t8 h15 fun t18 =>
K.callFK run 89 [t0, t18, t4] h15 fun t19 h20 =>
K.extK t19 0 fun t21 =>
K.extK t19 1 fun t22 =>
K.allocK (K.zN ctx 124) (K.zT ctx 124) h20 fun t23 h24 =>
K.stsK 5 t23 t21 h24 fun h25 =>
K.neK (K.binV ctx .neq 24 true t22 (.int .i64 (.ofNat 0))) t22 (.int .i64 (.ofNat 0)) fun t26 =>
K.iteV t26 (
K.unmarkK [] h25 fun h27 => .ok t22 h27) (
K.ldsK ctx 124 5 t23 h25 fun t28 =>
K.fldK 0 t10 fun t29 =>
K.ldK ctx 9 t29 h25 fun t30 =>
K.callFK run 90 [t28, t30] h25 fun t31 h32 =>
K.extK t31 0 fun t33 =>
K.extK t31 1 fun t34 =>
K.extK t31 2 fun t35 =>
K.allocK (K.zN ctx 64) (K.zT ctx 64) h32 fun t36 h37 =>
K.stsK 2 t36 t33 h37 fun h38 =>
K.eqK (K.binV ctx .eql 24 true t35 (.int .i64 (.ofNat 0))) t35 (.int .i64 (.ofNat 0)) fun t39 =>
K.iteV t39 (
K.unmarkK [] h38 fun h40 => .ok (.int .i64 (.ofNat 9)) h40) (
K.eqK (K.binV ctx .eql 24 true t35 (.int .i64 (.ofNat 6))) t35 (.int .i64 (.ofNat 6)) fun t41 =>
K.iteV t41 (
K.ldsK ctx 124 5 t23 h38 fun t42 =>
K.ldsK ctx 64 2 t10 h38 fun t43 =>
K.callFK run 91 [t42, t43] h38 fun t44 h45 =>
K.unmarkK [] h45 fun h46 => .ok t44 h46) (
K.unmarkK [] h38 fun h47 => .ok t35 h47)))))
noncomputable def r33 : K.KRun → List AV → H → K.KR := fun run args h => K.uncons args fun t0 l1 => K.unnil l1 (
K.eqK (K.binV ctx .eql 31 true t0 .nilSlice) t0 .nilSlice fun t2 =>
K.iteV t2 (
K.unmarkK [] h fun h3 => .ok .nilSlice h3) (
K.bslK ctx 27 1 0 [] h fun t4 h5 =>
K.appK ctx 27 1 t4 t0 h5 fun t6 h7 =>
K.unmarkK [] h7 fun h8 => .ok t6 h8))
noncomputable def r34 : K.KRun → List AV → H → K.KR := fun run args h => K.uncons args fun t0 l1 => K.unnil l1 (
K.boxK t0 h fun t2 h3 =>
K.fldK 0 t2 fun t4 =>
K.ldK ctx 3 t4 h3 fun t5 =>
K.geK (K.binV ctx .geq 3 true t5 (.int .i64 (.ofNat 1))) t5 (.int .i64 (.ofNat 1)) fun t6 =>
K.letK (fun (t7 : AV) (h8 : H) => K.letK (fun (t10 : AV) (h11 : H) => K.letK (fun (t13 : AV) (h14 : H) => K.pickK t6 t13 (.bool false) fun t16 =>
K.letK (fun (t17 : AV) (h18 : H) => K.letK (fun (t20 : AV) (h21 : H) => K.letK (fun (t23 : AV) (h24 : H) => K.pickK t16 t23 (.bool false) fun t26 =>
K.letK (fun (t27 : AV) (h28 : H) => K.letK (fun (t30 : AV) (h31 : H) => K.letK (fun (t33 : AV) (h34 : H) => K.pickK t26 t33 (.bool false) fun t36 =>
K.letK (fun (t37 : AV) (h38 : H) => K.letK (fun (t40 : AV) (h41 : H) => K.letK (fun (t43 : AV) (h44 : H) => K.pickK t36 t43 (.bool false) fun t46 =>
K.letK (fun (t47 : AV) (h48 : H) => K.letK (fun (t50 : AV) (h51 : H) => K.letK (fun (t53 : AV) (h54 : H) => K.pickK t46 t53 (.bool false) fun t56 =>
K.unmarkK [] h54 fun h57 => .ok t56 h57) fun j55 =>
K.guK true t46 (K.leK (K.binV ctx .leq 3 true t50 (.int .i64 (.ofNat 512))) t50 (.int .i64 (.ofNat 512)) fun t58 =>
j55 t58 h51) (j55 (.tup []) h51)) fun j52 =>
K.guK true t46 (K.ldK ctx 3 t47 h48 fun t59 =>
j52 t59 h48) (j52 (.tup []) h48)) fun j49 =>
K.guK true t46 (K.fldK 2 t2 fun t60 =>
j49 t60 h44) (j49 (.tup []) h44)) fun j45 =>
K.guK true t36 (K.geK (K.binV ctx .geq 3 true t40 (.int .i64 (.ofNat 2))) t40 (.int .i64 (.ofNat 2)) fun t61 =>
j45 t61 h41) (j45 (.tup []) h41)) fun j42 =>
K.guK true t36 (K.ldK ctx 3 t37 h38 fun t62 =>
j42 t62 h38) (j42 (.tup []) h38)) fun j39 =>
K.guK true t36 (K.fldK 2 t2 fun t63 =>
j39 t63 h34) (j39 (.tup []) h34)) fun j35 =>
K.guK true t26 (K.leK (K.binV ctx .leq 3 true t30 (.int .i64 (.ofNat 64))) t30 (.int .i64 (.ofNat 64)) fun t64 =>
j35 t64 h31) (j35 (.tup []) h31)) fun j32 =>
K.guK true t26 (K.ldK ctx 3 t27 h28 fun t65 =>
j32 t65 h28) (j32 (.tup []) h28)) fun j29 =>
K.guK true t26 (K.fldK 1 t2 fun t66 =>
j29 t66 h24) (j29 (.tup []) h24)) fun j25 =>
K.guK true t16 (K.geK (K.binV ctx .geq 3 true t20 (.int .i64 (.ofNat 2))) t20 (.int .i64 (.ofNat 2)) fun t67 =>
j25 t67 h21) (j25 (.tup []) h21)) fun j22 =>
K.guK true t16 (K.ldK ctx 3 t17 h18 fun t68 =>
j22 t68 h18) (j22 (.tup []) h18)) fun j19 =>
K.guK true t16 (K.fldK 1 t2 fun t69 =>
j19 t69 h14) (j19 (.tup []) h14)) fun j15 =>
K.guK true t6 (K.leK (K.binV ctx .leq 3 true t10 (.int .i64 (.ofNat 4))) t10 (.int .i64 (.ofNat 4)) fun t70 =>
j15 t70 h11) (j15 (.tup []) h11)) fun j12 =>
K.guK true t6 (K.ldK ctx 3 t7 h8 fun t71 =>
j12 t71 h8) (j12 (.tup []) h8)) fun j9 =>
K.guK true t6 (K.fldK 0 t2 fun t72 =>
j9 t72 h3) (j9 (.tup []) h3))
noncomputable def r35 : K.KRun → List AV → H → K.KR := fun run args h => K.uncons args fun t0 l1 => K.unnil l1 (
K.boxK t0 h fun t2 h3 =>
K.ldsK ctx 33 3 t2 h3 fun t4 =>
K.callFK run 34 [t4] h3 fun t5 h6 =>
K.notK t5 fun t7 =>
K.iteV t7 (
K.unmarkK [] h6 fun h8 => .ok (.int .i64 (.ofNat 0)) h8) (
K.ldsK ctx 33 3 t2 h6 fun t9 =>
K.fldK 1 t2 fun t10 =>
K.ldK ctx 3 t10 h6 fun t11 =>
K.mulK (K.binV ctx .mul 3 true (.int .i64 (.ofNat 16)) t11) (.int .i64 (.ofNat 16)) t11 fun t12 =>
K.fldK 2 t2 fun t13 =>
K.ldK ctx 3 t13 h6 fun t14 =>
K.mulK (K.binV ctx .mul 3 true (.int .i64 (.ofNat 8)) t14) (.int .i64 (.ofNat 8)) t14 fun t15 =>
K.callFK run 92 [t9] h6 fun t16 h17 =>
K.ldK ctx 3 t13 h17 fun t18 =>
K.req (AV.same t14 t18) (
K.ldK ctx 3 t10 h17 fun t19 =>
K.req (AV.same t11 t19) (
K.addK (K.binV ctx .add 3 true t16 (.int .i64 (.ofNat 16))) t16 (.int .i64 (.ofNat 16)) fun t20 =>
K.addK (K.binV ctx .add 3 false t20 t12) t20 t12 fun t21 =>
K.addK (K.binV ctx .add 3 false t21 t15) t21 t15 fun t22 =>
K.unmarkK [] h17 fun h23 => .ok t22 h23))))
noncomputable def r36 : K.KRun → List AV → H → K.KR := fun run args h => K.uncons args fun t0 l1 => K.unnil l1 (
K.boxK t0 h fun t2 h3 =>
K.ldsK ctx 33 3 t2 h3 fun t4 =>
K.callFK run 34 [t4] h3 fun t5 h6 =>
K.notK t5 fun t7 =>
K.iteV t7 (
K.unmarkK [] h6 fun h8 => .ok (.int .i64 (.negSucc 0)) h8) (
K.ldsK ctx 33 3 t2 h6 fun t9 =>
K.callFK run 92 [t9] h6 fun t10 h11 =>
K.unmarkK [] h11 fun h12 => .ok t10 h12))
noncomputable def r37 : K.KRun → List AV → H → K.KR := fun run args h => K.uncons args fun t0 l1 => K.unnil l1 (
K.boxK t0 h fun t2 h3 =>
K.ldsK ctx 33 3 t2 h3 fun t4 =>
K.callFK run 34 [t4] h3 fun t5 h6 =>
K.notK t5 fun t7 =>
K.iteV t7 (
K.unmarkK [] h6 fun h8 => .ok (.int .i64 (.negSucc 0)) h8) (
K.ldsK ctx 33 3 t2 h6 fun t9 =>
K.callFK run 92 [t9] h6 fun t10 h11 =>
K.addK (K.binV ctx .add 3 true t10 (.int .i64 (.ofNat 8))) t10 (.int .i64 (.ofNat 8)) fun t12 =>
K.unmarkK [] h11 fun h13 => .ok t12 h13))
noncomputable def r38 : K.KRun → List AV → H → K.KR := fun run args h => K.uncons args fun t0 l1 => K.uncons l1 fun t2 l3 => K.unnil l3 (
K.boxK t0 h fun t4 h5 =>
K.ldsK ctx 33 3 t4 h5 fun t6 =>
K.callFK run 34 [t6] h5 fun t7 h8 =>
K.notK t7 fun t9 =>
K.letK (fun (t10 : AV) (h11 : H) => K.letK (fun (t13 : AV) (h14 : H) => K.pickK t9 (.bool true) t13 fun t16 =>
K.letK (fun (t17 : AV) (h18 : H) => K.letK (fun (t20 : AV) (h21 : H) => K.letK (fun (t23 : AV) (h24 : H) => K.letK (fun (t26 : AV) (h27 : H) => K.pickK t16 (.bool true) t26 fun t29 =>
K.iteV t29 (
K.unmarkK [] h27 fun h30 => .ok (.int .i64 (.negSucc 0)) h30) (
K.ldsK ctx 33 3 t4 h27 fun t31 =>
K.callFK run 92 [t31] h27 fun t32 h33 =>
K.addK (K.binV ctx .add 3 true t32 (.int .i64 (.ofNat 16))) t32 (.int .i64 (.ofNat 16)) fun t34 =>
K.mulK (K.binV ctx .mul 3 true (.int .i64 (.ofNat 16)) t2) (.int .i64 (.ofNat 16)) t2 fun t35 =>
K.addK (K.binV ctx .add 3 false t34 t35) t34 t35 fun t36 =>
K.unmarkK [] h33 fun h37 => .ok t36 h37)) fun j28 =>
K.guK false t16 (K.geK (K.binV ctx .geq 3 false t17 t23) t17 t23 fun t38 =>
j28 t38 h24) (j28 (.tup []) h24)) fun j25 =>
K.guK false t16 (K.ldK ctx 3 t20 h21 fun t39 =>
j25 t39 h21) (j25 (.tup []) h21)) fun j22 =>
K.guK false t16 (K.fldK 1 t4 fun t40 =>
j22 t40 h18) (j22 (.tup []) h18)) fun j19 =>
K.guK false t16 (j19 t2 h14) (j19 (.tup []) h14)) fun j15 =>
K.guK false t9 (K.ltK (K.binV ctx .lss 3 true t10 (.int .i64 (.ofNat 0))) t10 (.int .i64 (.ofNat 0)) fun t41 =>
j15 t41 h11) (j15 (.tup []) h11)) fun j12 =>
K.guK false t9 (j12 t2 h8) (j12 (.tup []) h8))
noncomputable def r39 : K.KRun → List AV → H → K.KR := fun run args h => K.uncons args fun t0 l1 => K.uncons l1 fun t2 l3 => K.uncons l3 fun t4 l5 => K.unnil l5 (
K.boxK t2 h fun t6 h7 =>
K.ldsK ctx 23 3 t6 h7 fun t8 =>
K.callFK run 93 [t0, t8] h7 fun t9 h10 =>
K.extK t9 0 fun t11 =>
K.extK t9 1 fun t12 =>
K.allocK (K.zN ctx 130) (K.zT ctx 130) h10 fun t13 h14 =>
K.stsK 4 t13 t11 h14 fun h15 =>
K.neK (K.binV ctx .neq 24 true t12 (.int .i64 (.ofNat 0))) t12 (.int .i64 (.ofNat 0)) fun t16 =>
K.iteV t16 (
K.unmarkK [] h15 fun h17 => .ok (.tup [(.int .i64 (.ofNat 0)), t12]) h17) (
K.callFK run 94 [t4] h15 fun t18 h19 =>
K.extK t18 0 fun t20 =>
K.extK t18 1 fun t21 =>
K.neK (K.binV ctx .neq 24 true t21 (.int .i64 (.ofNat 0))) t21 (.int .i64 (.ofNat 0)) fun t22 =>
K.iteV t22 (
K.unmarkK [] h19 fun h23 => .ok (.tup [(.int .i64 (.ofNat 0)), t21]) h23) (
K.ldsK ctx 130 4 t13 h19 fun t24 =>
K.callFK run 95 [t20, (.func (.func 96) [t24] [])] h19 fun t25 h26 =>
K.extK t25 0 fun t27 =>
K.extK t25 1 fun t28 =>
K.unmarkK [] h26 fun h29 => .ok (.tup [t27, t28]) h29)))
noncomputable def r40 : K.KRun → List AV → H → K.KR := fun run args h => K.uncons args fun t0 l1 => K.uncons l1 fun t2 l3 => K.uncons l3 fun t4 l5 => K.unnil l5 (
K.boxK t2 h fun t6 h7 =>
K.allocK (K.zN ctx 58) (K.zT ctx 58) h7 fun t8 h9 =>
K.ldsK ctx 23 3 t6 h9 fun t10 =>
K.callFK run 84 [t0, t10, t4] h9 fun t11 h12 =>
K.extK t11 0 fun t13 =>
K.extK t11 1 fun t14 =>
K.neK (K.binV ctx .neq 24 true t14 (.int .i64 (.ofNat 0))) t14 (.int .i64 (.ofNat 0)) fun t15 =>
K.iteV t15 (
K.bldSK ctx 58 [] fun t16 =>
K.stsK 10 t8 t16 h12 fun h17 =>
K.unmarkK [] h17 fun h18 => K.asPtr t8 fun n19 n20 => K.loads h18 n19 n20 10 fun t21 => .ok (.tup [(.agg t21), t14]) h18) (
K.allocK (K.zN ctx 120) (K.zT ctx 120) h12 fun t22 h23 =>
K.letK (fun (l24 : List AV) (m25 : List Nat) (h26 : H) => K.uncons l24 fun t28 l29 => K.uncons l29 fun t30 l31 => K.uncons l31 fun t32 l33 => K.unnil l33 (
K.ldsK ctx 120 10 t32 h26 fun t34 =>
K.callFK run 97 [t34] h26 fun t35 h36 =>
K.allocK (K.zN ctx 58) (K.zT ctx 58) h36 fun t37 h38 =>
K.stsK 10 t37 t35 h38 fun h39 =>
K.ldsK ctx 23 3 t28 h39 fun t40 =>
K.ldsK ctx 58 10 t37 h39 fun t41 =>
K.callFK run 85 [t40, t41] h39 fun t42 h43 =>
K.notK t42 fun t44 =>
K.iteV t44 (
K.bldSK ctx 58 [] fun t45 =>
K.stsK 10 t30 t45 h43 fun h46 =>
K.unmarkK m25 h46 fun h47 => K.asPtr t30 fun n48 n49 => K.loads h47 n48 n49 10 fun t50 => .ok (.tup [(.agg t50), (.int .i64 (.ofNat 4))]) h47) (
K.ldsK ctx 58 10 t37 h43 fun t51 =>
K.stsK 10 t30 t51 h43 fun h52 =>
K.unmarkK m25 h52 fun h53 => K.asPtr t30 fun n54 n55 => K.loads h53 n54 n55 10 fun t56 => .ok (.tup [(.agg t56), (.int .i64 (.ofNat 0))]) h53))) fun j27 =>
K.loopV (nat_lit 1000000) (fun s60 l57 m58 h59 => K.uncons l57 fun t61 l62 => K.uncons l62 fun t63 l64 => K.uncons l64 fun t65 l66 => K.uncons l66 fun t67 l68 => K.uncons l68 fun t69 l70 => K.uncons l70 fun t71 l72 => K.unnil l72 (
K.ltK (K.binV ctx .lss 3 true t71 (.int .i64 (.ofNat 10))) t71 (.int .i64 (.ofNat 10)) fun t73 =>
K.iteV t73 (
K.addK (K.binV ctx .add 3 false t67 t71) t67 t71 fun t74 =>
K.callFK run 72 [t61, t74] h59 fun t75 h76 =>
K.idxAK 10 1 t69 t71 fun t77 =>
K.stK t77 t75 h76 fun h78 =>
K.addK (K.binV ctx .add 3 true t71 (.int .i64 (.ofNat 1))) t71 (.int .i64 (.ofNat 1)) fun t79 =>
s60 [t61, t63, t65, t67, t69, t79] m58 h78) (
j27 [t63, t65, t69] m58 h59))) [t0, t6, t8, t13, t22, (.int .i64 (.ofNat 0))] [] h23))
noncomputable def r43 : K.KRun → List AV → H → K.KR := fun run args h => K.uncons args fun t0 l1 => K.uncons l1 fun t2 l3 => K.uncons l3 fun t4 l5 => K.unnil l5 (
K.eqK (K.binV ctx .eql 29 true t0 .nilPtr) t0 .nilPtr fun t6 =>
K.iteV t6 (
K.unmarkK [] h fun h7 => .ok (.int .i64 (.ofNat 2)) h7) (
K.letK (fun (l8 : List AV) (m9 : List Nat) (h10 : H) => K.uncons l8 fun t12 l13 => K.uncons l13 fun t14 l15 => K.uncons l15 fun t16 l17 => K.uncons l17 fun t18 l19 => K.unnil l19 (
K.iteV t18 (
K.unmarkK m9 h10 fun h20 => .ok (.int .i64 (.ofNat 8)) h20) (
K.callFK run 72 [t12, t14] h10 fun t21 h22 =>
K.eqK (K.binV ctx .eql 27 false t21 t16) t21 t16 fun t23 =>
K.iteV t23 (
K.unmarkK m9 h22 fun h24 => .ok (.int .i64 (.ofNat 0)) h24) (
K.callFK run 98 [t12, t14, t16] h22 fun t25 h26 =>
K.unmarkK m9 h26 fun h27 => .ok t25 h27)))) fun j11 =>
K.ltK (K.binV ctx .lss 3 true t2 (.int .i64 (.ofNat 0))) t2 (.int .i64 (.ofNat 0)) fun t28 =>
K.iteV t28 (
j11 [t0, t2, t4, t28] [] h) (
K.callFK run 78 [t0] h fun t29 h30 =>
K.geK (K.binV ctx .geq 3 false t2 t29) t2 t29 fun t31 =>
j11 [t0, t2, t4, t31] [] h30)))
noncomputable def r44 : K.KRun → List AV → H → K.KR := fun run args h => K.uncons args fun t0 l1 => K.uncons l1 fun t2 l3 => K.unnil l3 (
K.boxK t0 h fun t4 h5 =>
K.ldsK ctx 23 3 t4 h5 fun t6 =>
K.callFK run 99 [t6, (.int .u8 (.ofNat 8)), t2] h5 fun t7 h8 =>
K.unmarkK [] h8 fun h9 => .ok t7 h9)
noncomputable def r51 : K.KRun → List AV → H → K.KR := fun run args h => K.uncons args fun t0 l1 => K.uncons l1 fun t2 l3 => K.uncons l3 fun t4 l5 => K.unnil l5 (
K.boxK t2 h fun t6 h7 =>
K.ldsK ctx 23 3 t6 h7 fun t8 =>
K.callFK run 40 [t0, t8, t4] h7 fun t9 h10 =>
K.extK t9 0 fun t11 =>
K.extK t9 1 fun t12 =>
K.allocK (K.zN ctx 58) (K.zT ctx 58) h10 fun t13 h14 =>
K.stsK 10 t13 t11 h14 fun h15 =>
K.neK (K.binV ctx .neq 24 true t12 (.int .i64 (.ofNat 0))) t12 (.int .i64 (.ofNat 0)) fun t16 =>
K.iteV t16 (
K.unmarkK [] h15 fun h17 => .ok (.tup [.nilPtr, t12]) h17) (
K.ldsK ctx 23 3 t6 h15 fun t18 =>
K.bldSK ctx 149 [(0, t0), (1, t18), (2, t4)] fun t19 =>
K.boxK t19 h15 fun t20 h21 =>
K.unmarkK [] h21 fun h22 => .ok (.tup [t20, (.int .i64 (.ofNat 0))]) h22))
noncomputable def r58 : K.KRun → List AV → H → K.KR := fun run args h => K.uncons args fun t0 l1 => K.uncons l1 fun t2 l3 => K.uncons l3 fun t4 l5 => K.unnil l5 (
K.boxK t2 h fun t6 h7 =>
K.allocK (K.zN ctx 92) (K.zT ctx 92) h7 fun t8 h9 =>
K.ldsK ctx 23 3 t6 h9 fun t10 =>
K.callFK run 75 [t0, t10, t4] h9 fun t11 h12 =>
K.extK t11 0 fun t13 =>
K.extK t11 1 fun t14 =>
K.extK t11 2 fun t15 =>
K.fldK 0 t8 fun t16 =>
K.stK t16 t13 h12 fun h17 =>
K.fldK 1 t8 fun t18 =>
K.stK t18 t14 h17 fun h19 =>
K.neK (K.binV ctx .neq 24 true t15 (.int .i64 (.ofNat 0))) t15 (.int .i64 (.ofNat 0)) fun t20 =>
K.iteV t20 (
K.bldSK ctx 92 [] fun t21 =>
K.stsK 14 t8 t21 h19 fun h22 =>
K.unmarkK [] h22 fun h23 => K.asPtr t8 fun n24 n25 => K.loads h23 n24 n25 14 fun t26 => .ok (.tup [(.agg t26), t15]) h23) (
K.ldsK ctx 23 3 t6 h19 fun t27 =>
K.fldK 0 t8 fun t28 =>
K.ldK ctx 3 t28 h19 fun t29 =>
K.fldK 1 t8 fun t30 =>
K.ldK ctx 9 t30 h19 fun t31 =>
K.callFK run 76 [t0, t27, t29, t31] h19 fun t32 h33 =>
K.extK t32 0 fun t34 =>
K.extK t32 1 fun t35 =>
K.extK t32 2 fun t36 =>
K.allocK (K.zN ctx 64) (K.zT ctx 64) h33 fun t37 h38 =>
K.stsK 2 t37 t34 h38 fun h39 =>
K.fldK 1 t37 fun t40 =>
K.ldK ctx 3 t40 h39 fun t41 =>
K.eqK (K.binV ctx .eql 24 true t36 (.int .i64 (.ofNat 0))) t36 (.int .i64 (.ofNat 0)) fun t42 =>
K.fldK 3 t8 fun t43 =>
K.stK t43 t41 h39 fun h44 =>
K.fldK 2 t8 fun t45 =>
K.stK t45 t42 h44 fun h46 =>
K.ldsK ctx 92 14 t8 h46 fun t47 =>
K.stsK 14 t8 t47 h46 fun h48 =>
K.unmarkK [] h48 fun h49 => K.asPtr t8 fun n50 n51 => K.loads h49 n50 n51 14 fun t52 => .ok (.tup [(.agg t52), t36]) h49))
noncomputable def r59 : K.KRun → List AV → H → K.KR := fun run args h => K.uncons args fun t0 l1 => K.unnil l1 (
K.letK (fun (l2 : List AV) (m3 : List Nat) (h4 : H) => K.unnil l2 (
K.unmarkK m3 h4 fun h6 => .ok (.int .i64 (.ofNat 0)) h6)) fun j5 =>
K.lenVK t0 fun t7 =>
K.loopV (nat_lit 1000000) (fun s11 l8 m9 h10 => K.uncons l8 fun t12 l13 => K.uncons l13 fun t14 l15 => K.uncons l15 fun t16 l17 => K.unnil l17 (
K.ltK (K.binV ctx .lss 3 false t16 t14) t16 t14 fun t18 =>
K.iteV t18 (
K.idxSK 1 t12 t16 fun t19 =>
K.ldK ctx 61 t19 h10 fun t20 =>
K.callVK run t20 [] h10 fun t21 h22 =>
K.neK (K.binV ctx .neq 24 true t21 (.int .i64 (.ofNat 0))) t21 (.int .i64 (.ofNat 0)) fun t23 =>
K.iteV t23 (
K.unmarkK m9 h22 fun h24 => .ok t21 h24) (
K.addK (K.binV ctx .add 3 true t16 (.int .i64 (.ofNat 1))) t16 (.int .i64 (.ofNat 1)) fun t25 =>
s11 [t12, t14, t25] m9 h22)) (
j5 [] m9 h10))) [t0, t7, (.int .i64 (.ofNat 0))] [] h)
noncomputable def r60 : K.KRun → List AV → H → K.KR := fun run args h => K.uncons args fun t0 l1 => K.unnil l1 (
K.ldsK ctx 96 32 t0 h fun t2 =>
K.callFK run 61 [t2] h fun t3 h4 =>
K.unmarkK [] h4 fun h5 => .ok t3 h5)
end YtpfgllikhklnoaaGreatDoorRnM
