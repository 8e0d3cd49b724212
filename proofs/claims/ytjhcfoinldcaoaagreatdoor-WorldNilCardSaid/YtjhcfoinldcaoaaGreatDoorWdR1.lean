/- PRINTED BY Gen2.lean (own): functions as plain texts, part 1. -/
import Derived.Test.YtjhcfoinldcaoaaGreatDoorWdCtx
namespace YtjhcfoinldcaoaaGreatDoorWdM
open Go Am
set_option maxRecDepth 100000
noncomputable def r49 : K.KRun → List AV → H → K.KR := fun run args h => K.uncons args fun t0 l1 => K.unnil l1 (
K.nilK t0 fun t2 =>
K.fldK 1 t2 fun t3 =>
K.ldK ctx 28 t3 h fun t4 =>
K.eqK (K.binV ctx .eql 28 true t4 .nilPtr) t4 .nilPtr fun t5 =>
K.iteV t5 (
K.slowK ctx run (K.opAt Go.Proofs.Tryz.f49 2 0) [] [] h fun t6 h7 =>
K.slowK ctx run (K.opAt Go.Proofs.Tryz.f49 2 3) [8, 10] [t6, (.func (.func 83) [t0] [])] h7 fun t8 h9 =>
K.slowK ctx run (K.opAt Go.Proofs.Tryz.f49 2 6) [8, 12] [t6, (.func (.func 84) [t0] [])] h9 fun t10 h11 =>
K.slowK ctx run (K.opAt Go.Proofs.Tryz.f49 2 9) [8, 14] [t6, (.func (.func 85) [t0] [])] h11 fun t12 h13 =>
K.slowK ctx run (K.opAt Go.Proofs.Tryz.f49 2 12) [8, 16] [t6, (.func (.func 86) [t0] [])] h13 fun t14 h15 =>
K.unmarkK [] h15 fun h16 => .ok t6 h16) (
K.slowK ctx run (K.opAt Go.Proofs.Tryz.f49 3 0) [] [] h fun t17 h18 =>
K.slowK ctx run (K.opAt Go.Proofs.Tryz.f49 3 3) [18, 20] [t17, (.func (.func 87) [t0] [])] h18 fun t19 h20 =>
K.slowK ctx run (K.opAt Go.Proofs.Tryz.f49 3 6) [18, 22] [t17, (.func (.func 88) [t0] [])] h20 fun t21 h22 =>
K.slowK ctx run (K.opAt Go.Proofs.Tryz.f49 3 9) [18, 24] [t17, (.func (.func 89) [t0] [])] h22 fun t23 h24 =>
K.slowK ctx run (K.opAt Go.Proofs.Tryz.f49 3 12) [18, 26] [t17, (.func (.func 90) [t0] [])] h24 fun t25 h26 =>
K.slowK ctx run (K.opAt Go.Proofs.Tryz.f49 3 15) [18, 28] [t17, (.func (.func 83) [t0] [])] h26 fun t27 h28 =>
K.slowK ctx run (K.opAt Go.Proofs.Tryz.f49 3 18) [18, 30] [t17, (.func (.func 84) [t0] [])] h28 fun t29 h30 =>
K.slowK ctx run (K.opAt Go.Proofs.Tryz.f49 3 21) [18, 32] [t17, (.func (.func 86) [t0] [])] h30 fun t31 h32 =>
K.unmarkK [] h32 fun h33 => .ok t17 h33))
noncomputable def r51 : K.KRun → List AV → H → K.KR := fun run args h => K.uncons args fun t0 l1 => K.uncons l1 fun t2 l3 => K.unnil l3 (
K.letK (fun (l4 : List AV) (m5 : List Nat) (h6 : H) => K.uncons l4 fun t8 l9 => K.unnil l9 (
K.unmarkK m5 h6 fun h10 => .ok t8 h10)) fun j7 =>
K.neK (K.binV ctx .neq 46 true t0 .nilPtr) t0 .nilPtr fun t11 =>
K.iteV t11 (
K.nilK t0 fun t12 =>
K.fldK 0 t12 fun t13 =>
K.ldK ctx 99 t13 h fun t14 =>
K.lenVK t14 fun t15 =>
K.loopV (nat_lit 1000000) (fun s19 l16 m17 h18 => K.uncons l16 fun t20 l21 => K.uncons l21 fun t22 l23 => K.uncons l23 fun t24 l25 => K.uncons l25 fun t26 l27 => K.uncons l27 fun t28 l29 => K.unnil l29 (
K.ltK (K.binV ctx .lss 3 false t28 t26) t28 t26 fun t30 =>
K.iteV t30 (
K.idxSK 6 t24 t28 fun t31 =>
K.ldsK ctx 119 6 t31 h18 fun t32 =>
K.allocK (K.zN ctx 119) (K.zT ctx 119) h18 fun t33 h34 =>
K.stsK 6 t33 t32 h34 fun h35 =>
K.ldsK ctx 119 6 t33 h35 fun t36 =>
K.callVK run t20 [t36] h35 fun t37 h38 =>
K.bslK ctx 23 1 1 [(0, t37)] h38 fun t39 h40 =>
K.appK ctx 23 1 t22 t39 h40 fun t41 h42 =>
K.addK (K.binV ctx .add 3 true t28 (.int .i64 (.ofNat 1))) t28 (.int .i64 (.ofNat 1)) fun t43 =>
s19 [t20, t41, t24, t26, t43] m17 h42) (
j7 [t22] m17 h18))) [t2, .nilSlice, t14, t15, (.int .i64 (.ofNat 0))] [] h) (
j7 [.nilSlice] [] h))
noncomputable def r52 : K.KRun → List AV → H → K.KR := fun run args h => K.uncons args fun t0 l1 => K.unnil l1 (
K.boxK t0 h fun t2 h3 =>
K.fldK 1 t2 fun t4 =>
K.ldK ctx 23 t4 h3 fun t5 =>
K.unmarkK [] h3 fun h6 => .ok t5 h6)
noncomputable def r53 : K.KRun → List AV → H → K.KR := fun run args h => K.uncons args fun t0 l1 => K.uncons l1 fun t2 l3 => K.uncons l3 fun t4 l5 => K.unnil l5 (
K.boxK t0 h fun t6 h7 =>
K.letK (fun (l8 : List AV) (m9 : List Nat) (h10 : H) => K.unnil l8 (
K.unmarkK m9 h10 fun h12 => .ok (.int .i64 (.negSucc 0)) h12)) fun j11 =>
K.ldsK ctx 53 3 t6 h7 fun t13 =>
K.callFK run 71 [t13] h7 fun t14 h15 =>
K.loopV (nat_lit 1000000) (fun s19 l16 m17 h18 => K.uncons l16 fun t20 l21 => K.uncons l21 fun t22 l23 => K.uncons l23 fun t24 l25 => K.uncons l25 fun t26 l27 => K.uncons l27 fun t28 l29 => K.uncons l29 fun t30 l31 => K.unnil l31 (
K.ltK (K.binV ctx .lss 3 true t30 (.int .i64 (.ofNat 7))) t30 (.int .i64 (.ofNat 7)) fun t32 =>
K.iteV t32 (
K.idxK ctx 160 3 7 t28 t30 fun t33 =>
K.allocK (K.zN ctx 160) (K.zT ctx 160) h18 fun t34 h35 =>
K.stsK 3 t34 t33 h35 fun h36 =>
K.fldK 0 t34 fun t37 =>
K.ldK ctx 122 t37 h36 fun t38 =>
K.neK (K.binV ctx .neq 122 false t38 t20) t38 t20 fun t39 =>
K.iteV t39 (
K.fldK 1 t34 fun t40 =>
K.ldK ctx 3 t40 h36 fun t41 =>
K.fldK 2 t34 fun t42 =>
K.ldK ctx 3 t42 h36 fun t43 =>
K.mulK (K.binV ctx .mul 3 false t41 t43) t41 t43 fun t44 =>
K.addK (K.binV ctx .add 3 false t26 t44) t26 t44 fun t45 =>
K.addK (K.binV ctx .add 3 true t30 (.int .i64 (.ofNat 1))) t30 (.int .i64 (.ofNat 1)) fun t46 =>
s19 [t20, t22, t24, t45, t28, t46] m17 h36) (
K.ldsK ctx 53 3 t24 h36 fun t47 =>
K.callFK run 41 [t47] h36 fun t48 h49 =>
K.letK (fun (t50 : AV) (h51 : H) => K.letK (fun (t53 : AV) (h54 : H) => K.letK (fun (t56 : AV) (h57 : H) => K.letK (fun (t59 : AV) (h60 : H) => K.letK (fun (t62 : AV) (h63 : H) => K.pickK t48 t62 (.bool false) fun t65 =>
K.iteV t65 (
K.fldK 1 t34 fun t66 =>
K.ldK ctx 3 t66 h63 fun t67 =>
K.mulK (K.binV ctx .mul 3 false t67 t22) t67 t22 fun t68 =>
K.addK (K.binV ctx .add 3 false t26 t68) t26 t68 fun t69 =>
K.unmarkK m17 h63 fun h70 => .ok t69 h70) (
j11 [] m17 h63)) fun j64 =>
K.guK true t48 (K.callFK run 70 [t50, (.int .i64 (.ofNat 0)), t59] h60 fun t71 h72 =>
j64 t71 h72) (j64 (.tup []) h60)) fun j61 =>
K.guK true t48 (K.subK (K.binV ctx .sub 3 true t56 (.int .i64 (.ofNat 1))) t56 (.int .i64 (.ofNat 1)) fun t73 =>
j61 t73 h57) (j61 (.tup []) h57)) fun j58 =>
K.guK true t48 (K.ldK ctx 3 t53 h54 fun t74 =>
j58 t74 h54) (j58 (.tup []) h54)) fun j55 =>
K.guK true t48 (K.fldK 2 t34 fun t75 =>
j55 t75 h51) (j55 (.tup []) h51)) fun j52 =>
K.guK true t48 (j52 t22 h49) (j52 (.tup []) h49))) (
j11 [] m17 h18))) [t2, t4, t6, (.int .i64 (.ofNat 0)), t14, (.int .i64 (.ofNat 0))] [] h15)
noncomputable def r54 : K.KRun → List AV → H → K.KR := fun run args h => K.uncons args fun t0 l1 => K.uncons l1 fun t2 l3 => K.uncons l3 fun t4 l5 => K.unnil l5 (
K.boxK t2 h fun t6 h7 =>
K.ldsK ctx 53 3 t6 h7 fun t8 =>
K.callFK run 27 [t8, t4] h7 fun t9 h10 =>
K.eqK (K.binV ctx .eql 46 true t0 .nilPtr) t0 .nilPtr fun t11 =>
K.iteV t11 (
K.unmarkK [] h10 fun h12 => .ok (.tup [.nilPtr, (.int .i64 (.ofNat 2))]) h12) (
K.ltK (K.binV ctx .lss 3 true t9 (.int .i64 (.ofNat 0))) t9 (.int .i64 (.ofNat 0)) fun t13 =>
K.iteV t13 (
K.unmarkK [] h10 fun h14 => .ok (.tup [.nilPtr, (.int .i64 (.ofNat 1))]) h14) (
K.ldsK ctx 53 3 t6 h10 fun t15 =>
K.callFK run 78 [t0] h10 fun t16 h17 =>
K.ldsK ctx 53 3 t6 h17 fun t18 =>
K.req (AV.same t15 t18) (
K.callFK run 42 [t15] h17 fun t19 h20 =>
K.ltK (K.binV ctx .lss 3 false t16 t19) t16 t19 fun t21 =>
K.iteV t21 (
K.unmarkK [] h20 fun h22 => .ok (.tup [.nilPtr, (.int .i64 (.ofNat 8))]) h22) (
K.ldsK ctx 53 3 t6 h20 fun t23 =>
K.bldSK ctx 173 [(0, t0), (1, t23), (2, t9)] fun t24 =>
K.boxK t24 h20 fun t25 h26 =>
K.unmarkK [] h26 fun h27 => .ok (.tup [t25, (.int .i64 (.ofNat 0))]) h27)))))
noncomputable def r55 : K.KRun → List AV → H → K.KR := fun run args h => K.uncons args fun t0 l1 => K.unnil l1 (
K.boxK t0 h fun t2 h3 =>
K.fldK 0 t2 fun t4 =>
K.ldK ctx 22 t4 h3 fun t5 =>
K.geK (K.binV ctx .geq 22 true t5 (.int .u8 (.ofNat 1))) t5 (.int .u8 (.ofNat 1)) fun t6 =>
K.letK (fun (t7 : AV) (h8 : H) => K.letK (fun (t10 : AV) (h11 : H) => K.letK (fun (t13 : AV) (h14 : H) => K.pickK t6 t13 (.bool false) fun t16 =>
K.letK (fun (t17 : AV) (h18 : H) => K.letK (fun (t20 : AV) (h21 : H) => K.letK (fun (t23 : AV) (h24 : H) => K.pickK t16 t23 (.bool false) fun t26 =>
K.letK (fun (t27 : AV) (h28 : H) => K.letK (fun (t30 : AV) (h31 : H) => K.letK (fun (t33 : AV) (h34 : H) => K.pickK t26 t33 (.bool false) fun t36 =>
K.unmarkK [] h34 fun h37 => .ok t36 h37) fun j35 =>
K.guK true t26 (K.ltK (K.binV ctx .lss 3 true t30 (.int .i64 (.ofNat 4))) t30 (.int .i64 (.ofNat 4)) fun t38 =>
j35 t38 h31) (j35 (.tup []) h31)) fun j32 =>
K.guK true t26 (K.ldK ctx 3 t27 h28 fun t39 =>
j32 t39 h28) (j32 (.tup []) h28)) fun j29 =>
K.guK true t26 (K.fldK 1 t2 fun t40 =>
j29 t40 h24) (j29 (.tup []) h24)) fun j25 =>
K.guK true t16 (K.geK (K.binV ctx .geq 3 true t20 (.int .i64 (.ofNat 0))) t20 (.int .i64 (.ofNat 0)) fun t41 =>
j25 t41 h21) (j25 (.tup []) h21)) fun j22 =>
K.guK true t16 (K.ldK ctx 3 t17 h18 fun t42 =>
j22 t42 h18) (j22 (.tup []) h18)) fun j19 =>
K.guK true t16 (K.fldK 1 t2 fun t43 =>
j19 t43 h14) (j19 (.tup []) h14)) fun j15 =>
K.guK true t6 (K.leK (K.binV ctx .leq 22 true t10 (.int .u8 (.ofNat 4))) t10 (.int .u8 (.ofNat 4)) fun t44 =>
j15 t44 h11) (j15 (.tup []) h11)) fun j12 =>
K.guK true t6 (K.ldK ctx 22 t7 h8 fun t45 =>
j12 t45 h8) (j12 (.tup []) h8)) fun j9 =>
K.guK true t6 (K.fldK 0 t2 fun t46 =>
j9 t46 h3) (j9 (.tup []) h3))
noncomputable def r56 : K.KRun → List AV → H → K.KR := fun run args h => K.uncons args fun t0 l1 => K.uncons l1 fun t2 l3 => K.unnil l3 (
K.boxK t2 h fun t4 h5 =>
K.slowK ctx run (K.opAt Go.Proofs.Tryz.f56 1 0) [] [] h5 fun t6 h7 =>
K.fldK 1 t4 fun t8 =>
K.ldK ctx 3 t8 h7 fun t9 =>
K.callFK run 92 [t9] h7 fun t10 h11 =>
K.slowK ctx run (K.opAt Go.Proofs.Tryz.f56 1 4) [11, 14] [t6, t10] h11 fun t12 h13 =>
K.letK (fun (l14 : List AV) (m15 : List Nat) (h16 : H) => K.uncons l14 fun t18 l19 => K.unnil l19 (
K.callFK run 96 [t18] h16 fun t20 h21 =>
K.callFK run 95 [t20] h21 fun t22 h23 =>
K.unmarkK m15 h23 fun h24 => .ok t22 h24)) fun j17 =>
K.callFK run 26 [t0] h13 fun t25 h26 =>
K.extK t25 0 fun t27 =>
K.extK t25 1 fun t28 =>
K.allocK (K.zN ctx 53) (K.zT ctx 53) h26 fun t29 h30 =>
K.stsK 3 t29 t27 h30 fun h31 =>
K.iteV t28 (
K.ldsK ctx 53 3 t29 h31 fun t32 =>
K.fldK 1 t4 fun t33 =>
K.ldK ctx 3 t33 h31 fun t34 =>
K.ldsK ctx 27 12 t4 h31 fun t35 =>
K.callFK run 38 [t0] h31 fun t36 h37 =>
K.ldsK ctx 27 12 t4 h37 fun t38 =>
K.req (AV.same t35 t38) (
K.ldK ctx 3 t33 h37 fun t39 =>
K.req (AV.same t34 t39) (
K.ldsK ctx 53 3 t29 h37 fun t40 =>
K.req (AV.same t32 t40) (
K.bldSK ctx 178 [(0, t36), (1, t32), (2, t34)] fun t41 =>
K.callFK run 93 [t41, t35] h37 fun t42 h43 =>
K.allocK (K.zN ctx 176) (K.zT ctx 176) h43 fun t44 h45 =>
K.stsK 3 t44 t42 h45 fun h46 =>
K.letK (fun (l47 : List AV) (m48 : List Nat) (h49 : H) => K.uncons l47 fun t51 l52 => K.uncons l52 fun t53 l54 => K.unnil l54 (
K.letK (fun (l55 : List AV) (m56 : List Nat) (h57 : H) => K.uncons l55 fun t59 l60 => K.uncons l60 fun t61 l62 => K.unnil l62 (
K.fldK 2 t61 fun t63 =>
K.ldK ctx 85 t63 h57 fun t64 =>
K.lenVK t64 fun t65 =>
K.loopV (nat_lit 1000000) (fun s69 l66 m67 h68 => K.uncons l66 fun t70 l71 => K.uncons l71 fun t72 l73 => K.uncons l73 fun t74 l75 => K.uncons l75 fun t76 l77 => K.unnil l77 (
K.ltK (K.binV ctx .lss 3 false t76 t74) t76 t74 fun t78 =>
K.iteV t78 (
K.idxSK 1 t72 t76 fun t79 =>
K.ldK ctx 3 t79 h68 fun t80 =>
K.callFK run 94 [t80] h68 fun t81 h82 =>
K.slowK ctx run (K.opAt Go.Proofs.Tryz.f56 12 3) [43, 45] [t70, t81] h82 fun t83 h84 =>
K.addK (K.binV ctx .add 3 true t76 (.int .i64 (.ofNat 1))) t76 (.int .i64 (.ofNat 1)) fun t85 =>
s69 [t70, t72, t74, t85] m67 h84) (
j17 [t70] m67 h68))) [t59, t64, t65, (.int .i64 (.ofNat 0))] m56 h57)) fun j58 =>
K.fldK 1 t53 fun t86 =>
K.ldK ctx 4 t86 h49 fun t87 =>
K.iteV t87 (
K.slowK ctx run (K.opAt Go.Proofs.Tryz.f56 8 1) [35] [t51] h49 fun t88 h89 =>
j58 [t51, t53] m48 h89) (
j58 [t51, t53] m48 h49))) fun j50 =>
K.fldK 0 t44 fun t90 =>
K.ldK ctx 4 t90 h46 fun t91 =>
K.iteV t91 (
K.slowK ctx run (K.opAt Go.Proofs.Tryz.f56 6 1) [32] [t6] h46 fun t92 h93 =>
j50 [t6, t44] [] h93) (
j50 [t6, t44] [] h46))))) (
j17 [t6] [] h31))
noncomputable def r57 : K.KRun → List AV → H → K.KR := fun run args h => K.uncons args fun t0 l1 => K.uncons l1 fun t2 l3 => K.unnil l3 (
K.boxK t2 h fun t4 h5 =>
K.eqK (K.binV ctx .eql 82 true t0 .nilPtr) t0 .nilPtr fun t6 =>
K.iteV t6 (
K.unmarkK [] h5 fun h7 => .ok (.int .i64 (.ofNat 2)) h7) (
K.ldsK ctx 27 12 t4 h5 fun t8 =>
K.callFK run 55 [t8] h5 fun t9 h10 =>
K.notK t9 fun t11 =>
K.iteV t11 (
K.unmarkK [] h10 fun h12 => .ok (.int .i64 (.ofNat 1)) h12) (
K.letK (fun (l13 : List AV) (m14 : List Nat) (h15 : H) => K.uncons l13 fun t17 l18 => K.uncons l18 fun t19 l20 => K.uncons l20 fun t21 l22 => K.unnil l22 (
K.iteV t21 (
K.unmarkK m14 h15 fun h23 => .ok (.int .i64 (.ofNat 3)) h23) (
K.ldsK ctx 27 12 t19 h15 fun t24 =>
K.nilK t17 fun t25 =>
K.fldK 4 t25 fun t26 =>
K.stsK 12 t26 t24 h15 fun h27 =>
K.nilK t17 fun t28 =>
K.fldK 16 t28 fun t29 =>
K.stK t29 (.func (.func 97) [t17] []) h27 fun h30 =>
K.unmarkK m14 h30 fun h31 => .ok (.int .i64 (.ofNat 0)) h31))) fun j16 =>
K.nilK t0 fun t32 =>
K.fldK 16 t32 fun t33 =>
K.ldK ctx 131 t33 h10 fun t34 =>
K.neK (K.binV ctx .neq 131 true t34 .nilFunc) t34 .nilFunc fun t35 =>
K.iteV t35 (
j16 [t0, t4, t35] [] h10) (
K.nilK t0 fun t36 =>
K.fldK 24 t36 fun t37 =>
K.ldK ctx 4 t37 h10 fun t38 =>
j16 [t0, t4, t38] [] h10))))
noncomputable def r58 : K.KRun → List AV → H → K.KR := fun run args h => K.uncons args fun t0 l1 => K.uncons l1 fun t2 l3 => K.unnil l3 (
K.letK (fun (l4 : List AV) (m5 : List Nat) (h6 : H) => K.unnil l4 (
K.unmarkK m5 h6 fun h8 => .ok (.tup [(.int .i64 (.ofNat 0)), (.bool false)]) h8)) fun j7 =>
K.loopV (nat_lit 1000000) (fun s12 l9 m10 h11 => K.uncons l9 fun t13 l14 => K.uncons l14 fun t15 l16 => K.uncons l16 fun t17 l18 => K.unnil l18 (
K.ltK (K.binV ctx .lss 3 true t17 (.int .i64 (.ofNat 70))) t17 (.int .i64 (.ofNat 70)) fun t19 =>
K.iteV t19 (
K.callFK run 99 [t13, t17] h11 fun t20 h21 =>
K.callFK run 98 [t20, t15] h21 fun t22 h23 =>
K.iteV t22 (
K.unmarkK m10 h23 fun h24 => .ok (.tup [t17, (.bool true)]) h24) (
K.addK (K.binV ctx .add 3 true t17 (.int .i64 (.ofNat 1))) t17 (.int .i64 (.ofNat 1)) fun t25 =>
s12 [t13, t15, t25] m10 h23)) (
j7 [] m10 h11))) [t0, t2, (.int .i64 (.ofNat 0))] [] h)
noncomputable def r59 : K.KRun → List AV → H → K.KR := fun run args h => K.uncons args fun t0 l1 => K.uncons l1 fun t2 l3 => K.unnil l3 (
K.callFK run 100 [t0, t2] h fun t4 h5 =>
K.geK (K.binV ctx .geq 3 true t4 (.int .i64 (.ofNat 0))) t4 (.int .i64 (.ofNat 0)) fun t6 =>
K.unmarkK [] h5 fun h7 => .ok t6 h7)
noncomputable def r60 : K.KRun → List AV → H → K.KR := fun run args h => K.uncons args fun t0 l1 => K.unnil l1 (
K.letK (fun (l2 : List AV) (m3 : List Nat) (h4 : H) => K.uncons l2 fun t6 l7 => K.uncons l7 fun t8 l9 => K.unnil l9 (
K.callFK run 101 [.nilSlice, t8] h4 fun t10 h11 =>
K.letK (fun (l12 : List AV) (m13 : List Nat) (h14 : H) => K.uncons l12 fun t16 l17 => K.unnil l17 (
K.unmarkK m13 h14 fun h18 => .ok t16 h18)) fun j15 =>
K.lenVK t6 fun t19 =>
K.loopV (nat_lit 1000000) (fun s23 l20 m21 h22 => K.uncons l20 fun t24 l25 => K.uncons l25 fun t26 l27 => K.uncons l27 fun t28 l29 => K.uncons l29 fun t30 l31 => K.unnil l31 (
K.ltK (K.binV ctx .lss 3 false t30 t28) t30 t28 fun t32 =>
K.iteV t32 (
K.idxSK 1 t26 t30 fun t33 =>
K.ldK ctx 77 t33 h22 fun t34 =>
K.appK ctx 89 13 t24 t34 h22 fun t35 h36 =>
K.addK (K.binV ctx .add 3 true t30 (.int .i64 (.ofNat 1))) t30 (.int .i64 (.ofNat 1)) fun t37 =>
s23 [t35, t26, t28, t37] m21 h36) (
j15 [t24] m21 h22))) [t10, t6, t19, (.int .i64 (.ofNat 0))] m3 h11)) fun j5 =>
K.lenVK t0 fun t38 =>
K.loopV (nat_lit 1000000) (fun s42 l39 m40 h41 => K.uncons l39 fun t43 l44 => K.uncons l44 fun t45 l46 => K.uncons l46 fun t47 l48 => K.uncons l48 fun t49 l50 => K.uncons l50 fun t51 l52 => K.unnil l52 (
K.ltK (K.binV ctx .lss 3 false t51 t49) t51 t49 fun t53 =>
K.iteV t53 (
K.letK (fun (l54 : List AV) (m55 : List Nat) (h56 : H) => K.uncons l54 fun t58 l59 => K.uncons l59 fun t60 l61 => K.uncons l61 fun t62 l63 => K.uncons l63 fun t64 l65 => K.uncons l65 fun t66 l67 => K.unnil l67 (
K.addK (K.binV ctx .add 3 true t66 (.int .i64 (.ofNat 1))) t66 (.int .i64 (.ofNat 1)) fun t68 =>
s42 [t58, t60, t62, t64, t68] m55 h56)) fun j57 =>
K.idxSK 1 t47 t51 fun t69 =>
K.ldK ctx 77 t69 h41 fun t70 =>
K.lenVK t70 fun t71 =>
K.addK (K.binV ctx .add 3 false t45 t71) t45 t71 fun t72 =>
K.ltK (K.binV ctx .lss 3 true t72 (.int .i64 (.ofNat 0))) t72 (.int .i64 (.ofNat 0)) fun t73 =>
K.iteV t73 (
K.slowK ctx run (K.opAt Go.Proofs.Tryz.f60 7 1) [21] [(.iface 9 (.str [108, 101, 110, 32, 111, 117, 116, 32, 111, 102, 32, 114, 97, 110, 103, 101]))] h41 fun t74 h75 =>
j57 [t43, t72, t47, t49, t51] m40 h75) (
j57 [t43, t72, t47, t49, t51] m40 h41)) (
j5 [t43, t45] m40 h41))) [t0, (.int .i64 (.ofNat 0)), t0, t38, (.int .i64 (.ofNat 0))] [] h)
noncomputable def r61 : K.KRun → List AV → H → K.KR := fun run args h => K.uncons args fun t0 l1 => K.uncons l1 fun t2 l3 => K.unnil l3 (
K.boxK t0 h fun t4 h5 =>
K.fldK 0 t4 fun t6 =>
K.ldK ctx 3 t6 h5 fun t7 =>
K.gtK (K.binV ctx .gtr 3 true t7 (.int .i64 (.ofNat 0))) t7 (.int .i64 (.ofNat 0)) fun t8 =>
K.letK (fun (t9 : AV) (h10 : H) => K.letK (fun (t12 : AV) (h13 : H) => K.letK (fun (t15 : AV) (h16 : H) => K.pickK t8 t15 (.bool false) fun t18 =>
K.unmarkK [] h16 fun h19 => .ok t18 h19) fun j17 =>
K.guK true t8 (K.callVK run t9 [t12] h13 fun t20 h21 =>
j17 t20 h21) (j17 (.tup []) h13)) fun j14 =>
K.guK true t8 (K.ldsK ctx 89 13 t4 h10 fun t22 =>
j14 t22 h10) (j14 (.tup []) h10)) fun j11 =>
K.guK true t8 (K.ldK ctx 95 t2 h5 fun t23 =>
j11 t23 h5) (j11 (.tup []) h5))
noncomputable def r62 : K.KRun → List AV → H → K.KR := fun run args h => K.uncons args fun t0 l1 => K.uncons l1 fun t2 l3 => K.uncons l3 fun t4 l5 => K.unnil l5 (
K.eqK (K.binV ctx .eql 97 true t0 .nilPtr) t0 .nilPtr fun t6 =>
K.iteV t6 (
K.unmarkK [] h fun h7 => .ok (.int .i64 (.ofNat 2)) h7) (
K.letK (fun (l8 : List AV) (m9 : List Nat) (h10 : H) => K.uncons l8 fun t12 l13 => K.unnil l13 (
K.iteV t12 (
K.unmarkK m9 h10 fun h14 => .ok (.int .i64 (.ofNat 1)) h14) (
K.unmarkK m9 h10 fun h15 => .ok (.int .i64 (.ofNat 0)) h15))) fun j11 =>
K.ltK (K.binV ctx .lss 23 false t2 t4) t2 t4 fun t16 =>
K.iteV t16 (
j11 [t16] [] h) (
K.gtK (K.binV ctx .gtr 23 true t2 (.int .u64 (.ofNat 1099511627776))) t2 (.int .u64 (.ofNat 1099511627776)) fun t17 =>
j11 [t17] [] h)))
noncomputable def r63 : K.KRun → List AV → H → K.KR := fun run args h => K.uncons args fun t0 l1 => K.uncons l1 fun t2 l3 => K.uncons l3 fun t4 l5 => K.unnil l5 (
K.allocK (K.zN ctx 143) (K.zT ctx 143) h fun t6 h7 =>
K.callFK run 102 [t0, t2] h7 fun t8 h9 =>
K.extK t8 0 fun t10 =>
K.extK t8 1 fun t11 =>
K.allocK (K.zN ctx 143) (K.zT ctx 143) h9 fun t12 h13 =>
K.stsK 3 t12 t10 h13 fun h14 =>
K.letK (fun (l15 : List AV) (m16 : List Nat) (h17 : H) => K.uncons l15 fun t19 l20 => K.uncons l20 fun t21 l22 => K.uncons l22 fun t23 l24 => K.unnil l24 (
K.ldsK ctx 143 3 t21 h17 fun t25 =>
K.stsK 3 t19 t25 h17 fun h26 =>
K.unmarkK m16 h26 fun h27 => K.asPtr t19 fun n28 n29 => K.loads h27 n28 n29 3 fun t30 => .ok (.tup [(.agg t30), t23]) h27)) fun j18 =>
K.eqK (K.binV ctx .eql 29 true t11 (.int .i64 (.ofNat 0))) t11 (.int .i64 (.ofNat 0)) fun t31 =>
K.letK (fun (t32 : AV) (h33 : H) => K.letK (fun (t35 : AV) (h36 : H) => K.letK (fun (t38 : AV) (h39 : H) => K.letK (fun (t41 : AV) (h42 : H) => K.letK (fun (t44 : AV) (h45 : H) => K.letK (fun (t47 : AV) (h48 : H) => K.letK (fun (t50 : AV) (h51 : H) => K.letK (fun (t53 : AV) (h54 : H) => K.letK (fun (t56 : AV) (h57 : H) => K.pickK t31 t56 (.bool false) fun t59 =>
K.iteV t59 (
j18 [t6, t12, (.int .i64 (.ofNat 22))] [] h57) (
j18 [t6, t12, t11] [] h57)) fun j58 =>
K.guK true t31 (K.pickK t41 (.bool true) t53 fun t60 =>
j58 t60 h54) (j58 (.tup []) h54)) fun j55 =>
K.guK false t41 (K.neK (K.binV ctx .neq 23 false t47 t50) t47 t50 fun t61 =>
j55 t61 h51) (j55 (.tup []) h51)) fun j52 =>
K.guK false t41 (j52 t4 h48) (j52 (.tup []) h48)) fun j49 =>
K.guK false t41 (K.ldK ctx 23 t44 h45 fun t62 =>
j49 t62 h45) (j49 (.tup []) h45)) fun j46 =>
K.guK false t41 (K.fldK 1 t12 fun t63 =>
j46 t63 h42) (j46 (.tup []) h42)) fun j43 =>
K.guK true t31 (j43 t38 h39) (j43 (.tup []) h39)) fun j40 =>
K.guK true t31 (K.notK t35 fun t64 =>
j40 t64 h36) (j40 (.tup []) h36)) fun j37 =>
K.guK true t31 (K.ldK ctx 4 t32 h33 fun t65 =>
j37 t65 h33) (j37 (.tup []) h33)) fun j34 =>
K.guK true t31 (K.fldK 0 t12 fun t66 =>
j34 t66 h14) (j34 (.tup []) h14))
noncomputable def r64 : K.KRun → List AV → H → K.KR := fun run args h => K.uncons args fun t0 l1 => K.uncons l1 fun t2 l3 => K.uncons l3 fun t4 l5 => K.unnil l5 (
K.allocK (K.zN ctx 39) (K.zT ctx 39) h fun t6 h7 =>
K.callFK run 103 [t0, t2, t4] h7 fun t8 h9 =>
K.extK t8 0 fun t10 =>
K.extK t8 1 fun t11 =>
K.neK (K.binV ctx .neq 29 true t11 (.int .i64 (.ofNat 0))) t11 (.int .i64 (.ofNat 0)) fun t12 =>
K.letK (fun (t13 : AV) (h14 : H) => K.letK (fun (t16 : AV) (h17 : H) => K.letK (fun (t19 : AV) (h20 : H) => K.letK (fun (t22 : AV) (h23 : H) => K.pickK t12 (.bool true) t22 fun t25 =>
K.iteV t25 (
K.bldSK ctx 39 [] fun t26 =>
K.stsK 4 t6 t26 h23 fun h27 =>
K.unmarkK [] h27 fun h28 => K.asPtr t6 fun n29 n30 => K.loads h28 n29 n30 4 fun t31 => .ok (.tup [(.int .u64 (.ofNat 0)), (.agg t31), t11]) h28) (
K.addK (K.binV ctx .add 3 true t10 (.int .i64 (.ofNat 1))) t10 (.int .i64 (.ofNat 1)) fun t32 =>
K.callFK run 104 [t0, t32] h23 fun t33 h34 =>
K.oK (K.binV ctx .rem 23 true t33 (.int .u64 (.ofNat 256))) fun t35 =>
K.addK (K.binV ctx .add 3 true t10 (.int .i64 (.ofNat 1))) t10 (.int .i64 (.ofNat 1)) fun t36 =>
K.callFK run 104 [t0, t36] h34 fun t37 h38 =>
K.oK (K.binV ctx .quo 23 true t37 (.int .u64 (.ofNat 256))) fun t39 =>
K.gtK (K.binV ctx .gtr 23 true t35 (.int .u64 (.ofNat 24))) t35 (.int .u64 (.ofNat 24)) fun t40 =>
K.letK (fun (t41 : AV) (h42 : H) => K.letK (fun (t44 : AV) (h45 : H) => K.pickK t40 (.bool true) t44 fun t47 =>
K.iteV t47 (
K.bldSK ctx 39 [] fun t48 =>
K.stsK 4 t6 t48 h45 fun h49 =>
K.unmarkK [] h49 fun h50 => K.asPtr t6 fun n51 n52 => K.loads h50 n51 n52 4 fun t53 => .ok (.tup [(.int .u64 (.ofNat 0)), (.agg t53), (.int .i64 (.ofNat 4))]) h50) (
K.letK (fun (l54 : List AV) (m55 : List Nat) (h56 : H) => K.uncons l54 fun t58 l59 => K.uncons l59 fun t60 l61 => K.uncons l61 fun t62 l63 => K.uncons l63 fun t64 l65 => K.uncons l65 fun t66 l67 => K.uncons l67 fun t68 l69 => K.unnil l69 (
K.rK (convA ctx 23 3 t66 h56) fun t70 h71 =>
K.callFK run 105 [t68, t70] h71 fun t72 h73 =>
K.extK t72 0 fun t74 =>
K.extK t72 1 fun t75 =>
K.neK (K.binV ctx .neq 29 true t75 (.int .i64 (.ofNat 0))) t75 (.int .i64 (.ofNat 0)) fun t76 =>
K.iteV t76 (
K.bldSK ctx 39 [] fun t77 =>
K.stsK 4 t60 t77 h73 fun h78 =>
K.unmarkK m55 h78 fun h79 => K.asPtr t60 fun n80 n81 => K.loads h79 n80 n81 4 fun t82 => .ok (.tup [(.int .u64 (.ofNat 0)), (.agg t82), t75]) h79) (
K.callFK run 104 [t58, t62] h73 fun t83 h84 =>
K.rK (convA ctx 23 29 t64 h84) fun t85 h86 =>
K.addK (K.binV ctx .add 3 true t62 (.int .i64 (.ofNat 2))) t62 (.int .i64 (.ofNat 2)) fun t87 =>
K.callFK run 104 [t58, t87] h86 fun t88 h89 =>
K.addK (K.binV ctx .add 3 true t62 (.int .i64 (.ofNat 3))) t62 (.int .i64 (.ofNat 3)) fun t90 =>
K.callFK run 104 [t58, t90] h89 fun t91 h92 =>
K.bldSK ctx 39 [(0, t85), (1, t88), (2, t91), (3, t74)] fun t93 =>
K.stsK 4 t60 t93 h92 fun h94 =>
K.unmarkK m55 h94 fun h95 => K.asPtr t60 fun n96 n97 => K.loads h95 n96 n97 4 fun t98 => .ok (.tup [t83, (.agg t98), (.int .i64 (.ofNat 0))]) h95))) fun j57 =>
K.loopV (nat_lit 1000000) (fun s102 l99 m100 h101 => K.uncons l99 fun t103 l104 => K.uncons l104 fun t105 l106 => K.uncons l106 fun t107 l108 => K.uncons l108 fun t109 l110 => K.uncons l110 fun t111 l112 => K.uncons l112 fun t113 l114 => K.uncons l114 fun t115 l116 => K.unnil l116 (
K.ltK (K.binV ctx .lss 3 true t115 (.int .i64 (.ofNat 12))) t115 (.int .i64 (.ofNat 12)) fun t117 =>
K.iteV t117 (
K.addK (K.binV ctx .add 3 false t107 t115) t107 t115 fun t118 =>
K.callFK run 104 [t103, t118] h101 fun t119 h120 =>
K.bslK ctx 23 1 1 [(0, t119)] h120 fun t121 h122 =>
K.appK ctx 23 1 t113 t121 h122 fun t123 h124 =>
K.addK (K.binV ctx .add 3 true t115 (.int .i64 (.ofNat 1))) t115 (.int .i64 (.ofNat 1)) fun t125 =>
s102 [t103, t105, t107, t109, t111, t123, t125] m100 h124) (
j57 [t103, t105, t107, t109, t111, t113] m100 h101))) [t0, t6, t10, t35, t39, .nilSlice, (.int .i64 (.ofNat 4))] [] h45)) fun j46 =>
K.guK false t40 (K.gtK (K.binV ctx .gtr 23 true t41 (.int .u64 (.ofNat 64))) t41 (.int .u64 (.ofNat 64)) fun t126 =>
j46 t126 h42) (j46 (.tup []) h42)) fun j43 =>
K.guK false t40 (j43 t39 h38) (j43 (.tup []) h38))) fun j24 =>
K.guK false t12 (K.eqK (K.binV ctx .eql 23 true t19 (.int .u64 (.ofNat 0))) t19 (.int .u64 (.ofNat 0)) fun t127 =>
j24 t127 h20) (j24 (.tup []) h20)) fun j21 =>
K.guK false t12 (K.callFK run 104 [t13, t16] h17 fun t128 h129 =>
j21 t128 h129) (j21 (.tup []) h17)) fun j18 =>
K.guK false t12 (j18 t10 h14) (j18 (.tup []) h14)) fun j15 =>
K.guK false t12 (j15 t0 h9) (j15 (.tup []) h9))
noncomputable def r65 : K.KRun → List AV → H → K.KR := fun run args h => K.uncons args fun t0 l1 => K.unnil l1 (
K.eqK (K.binV ctx .eql 50 true t0 .nilSlice) t0 .nilSlice fun t2 =>
K.iteV t2 (
K.unmarkK [] h fun h3 => .ok .nilSlice h3) (
K.bslK ctx 23 1 0 [] h fun t4 h5 =>
K.appK ctx 23 1 t4 t0 h5 fun t6 h7 =>
K.unmarkK [] h7 fun h8 => .ok t6 h8))
noncomputable def r66 : K.KRun → List AV → H → K.KR := fun run args h => K.uncons args fun t0 l1 => K.uncons l1 fun t2 l3 => K.unnil l3 (
K.eqK (K.binV ctx .eql 46 true t0 .nilPtr) t0 .nilPtr fun t4 =>
K.iteV t4 (
K.unmarkK [] h fun h5 => .ok (.tup [.nilPtr, (.int .i64 (.ofNat 2))]) h5) (
K.letK (fun (l6 : List AV) (m7 : List Nat) (h8 : H) => K.uncons l6 fun t10 l11 => K.uncons l11 fun t12 l13 => K.uncons l13 fun t14 l15 => K.unnil l15 (
K.iteV t14 (
K.unmarkK m7 h8 fun h16 => .ok (.tup [.nilPtr, (.int .i64 (.ofNat 8))]) h16) (
K.nilK t10 fun t17 =>
K.fldK 0 t17 fun t18 =>
K.ldK ctx 99 t18 h8 fun t19 =>
K.idxSK 6 t19 t12 fun t20 =>
K.unmarkK m7 h8 fun h21 => .ok (.tup [t20, (.int .i64 (.ofNat 0))]) h21))) fun j9 =>
K.ltK (K.binV ctx .lss 3 true t2 (.int .i64 (.ofNat 0))) t2 (.int .i64 (.ofNat 0)) fun t22 =>
K.iteV t22 (
j9 [t0, t2, t22] [] h) (
K.nilK t0 fun t23 =>
K.fldK 0 t23 fun t24 =>
K.ldK ctx 99 t24 h fun t25 =>
K.lenVK t25 fun t26 =>
K.geK (K.binV ctx .geq 3 false t2 t26) t2 t26 fun t27 =>
j9 [t0, t2, t27] [] h)))
noncomputable def r67 : K.KRun → List AV → H → K.KR := fun run args h => K.uncons args fun t0 l1 => K.uncons l1 fun t2 l3 => K.uncons l3 fun t4 l5 => K.unnil l5 (
K.boxK t4 h fun t6 h7 =>
K.eqK (K.binV ctx .eql 46 true t0 .nilPtr) t0 .nilPtr fun t8 =>
K.iteV t8 (
K.unmarkK [] h7 fun h9 => .ok (.int .i64 (.ofNat 2)) h9) (
K.letK (fun (l10 : List AV) (m11 : List Nat) (h12 : H) => K.uncons l10 fun t14 l15 => K.uncons l15 fun t16 l17 => K.uncons l17 fun t18 l19 => K.uncons l19 fun t20 l21 => K.unnil l21 (
K.iteV t20 (
K.unmarkK m11 h12 fun h22 => .ok (.int .i64 (.ofNat 8)) h22) (
K.letK (fun (l23 : List AV) (m24 : List Nat) (h25 : H) => K.unnil l23 (
K.unmarkK m24 h25 fun h27 => .ok (.int .i64 (.ofNat 0)) h27)) fun j26 =>
K.nilK t14 fun t28 =>
K.fldK 0 t28 fun t29 =>
K.ldK ctx 99 t29 h12 fun t30 =>
K.mulK (K.binV ctx .mul 3 true t16 (.int .i64 (.ofNat 8))) t16 (.int .i64 (.ofNat 8)) fun t31 =>
K.addK (K.binV ctx .add 3 true t16 (.int .i64 (.ofNat 1))) t16 (.int .i64 (.ofNat 1)) fun t32 =>
K.mulK (K.binV ctx .mul 3 true t32 (.int .i64 (.ofNat 8))) t32 (.int .i64 (.ofNat 8)) fun t33 =>
K.slcK ctx 99 t30 (some t31) (some t33) none h12 fun t34 =>
K.callFK run 106 [t34] h12 fun t35 h36 =>
K.hNew h36 .marks fun r37 h38 => K.hNew h38 (.loop .ready none (K.mkT [5, 32] [t18, t35]) 2 r37) fun n39 h40 =>
K.rngK ctx run t35 n39 h40 (fun h42 => j26 [] (r37 :: m11) h42) (fun h43 => K.unmarkK (r37 :: m11) h43 fun h46 => .bad) fun i41 h44 => (Bool.rec (motive := fun _ => K.KR) (.bad) (j26 [] (r37 :: m11) h44) (Nat.beq i41 1))))) fun j13 =>
K.ltK (K.binV ctx .lss 3 true t2 (.int .i64 (.ofNat 0))) t2 (.int .i64 (.ofNat 0)) fun t47 =>
K.iteV t47 (
j13 [t0, t2, t6, t47] [] h7) (
K.nilK t0 fun t48 =>
K.fldK 0 t48 fun t49 =>
K.ldK ctx 99 t49 h7 fun t50 =>
K.lenVK t50 fun t51 =>
K.oK (K.binV ctx .quo 3 true t51 (.int .i64 (.ofNat 8))) fun t52 =>
K.geK (K.binV ctx .geq 3 false t2 t52) t2 t52 fun t53 =>
j13 [t0, t2, t6, t53] [] h7)))
noncomputable def r69 : K.KRun → List AV → H → K.KR := fun run args h => K.uncons args fun t0 l1 => K.uncons l1 fun t2 l3 => K.unnil l3 (
K.bldSK ctx 117 [] fun t4 =>
K.nilK t0 fun t5 =>
K.fldK 0 t5 fun t6 =>
K.stK t6 t2 h fun h7 =>
K.nilK t0 fun t8 =>
K.fldK 2 t8 fun t9 =>
K.stsK 4 t9 t4 h7 fun h10 =>
K.unmarkK [] h10 fun h11 => .ok (.tup []) h11)
noncomputable def r70 : K.KRun → List AV → H → K.KR := fun run args h => K.uncons args fun t0 l1 => K.uncons l1 fun t2 l3 => K.uncons l3 fun t4 l5 => K.unnil l5 (
K.geK (K.binV ctx .geq 3 false t0 t2) t0 t2 fun t6 =>
K.letK (fun (t7 : AV) (h8 : H) => K.letK (fun (t10 : AV) (h11 : H) => K.letK (fun (t13 : AV) (h14 : H) => K.pickK t6 t13 (.bool false) fun t16 =>
K.unmarkK [] h14 fun h17 => .ok t16 h17) fun j15 =>
K.guK true t6 (K.leK (K.binV ctx .leq 3 false t7 t10) t7 t10 fun t18 =>
j15 t18 h11) (j15 (.tup []) h11)) fun j12 =>
K.guK true t6 (j12 t4 h8) (j12 (.tup []) h8)) fun j9 =>
K.guK true t6 (j9 t0 h) (j9 (.tup []) h))
noncomputable def r71 : K.KRun → List AV → H → K.KR := fun run args h => K.uncons args fun t0 l1 => K.unnil l1 (
K.boxK t0 h fun t2 h3 =>
K.allocK (K.zN ctx 161) (K.zT ctx 161) h3 fun t4 h5 =>
K.bldSK ctx 160 [(0, (.int .u8 (.ofNat 1))), (1, (.int .i64 (.ofNat 8))), (2, (.int .i64 (.ofNat 1)))] fun t6 =>
K.bldSK ctx 160 [(0, (.int .u8 (.ofNat 2))), (1, (.int .i64 (.ofNat 64))), (2, (.int .i64 (.ofNat 4)))] fun t7 =>
K.fldK 0 t2 fun t8 =>
K.ldK ctx 3 t8 h5 fun t9 =>
K.bldSK ctx 160 [(0, (.int .u8 (.ofNat 5))), (1, (.int .i64 (.ofNat 208))), (2, t9)] fun t10 =>
K.bldSK ctx 160 [(0, (.int .u8 (.ofNat 6))), (1, (.int .i64 (.ofNat 8))), (2, (.int .i64 (.ofNat 1)))] fun t11 =>
K.bldSK ctx 160 [(0, (.int .u8 (.ofNat 7))), (1, (.int .i64 (.ofNat 8))), (2, (.int .i64 (.ofNat 1)))] fun t12 =>
K.fldK 1 t2 fun t13 =>
K.ldK ctx 3 t13 h5 fun t14 =>
K.bldSK ctx 160 [(0, (.int .u8 (.ofNat 8))), (1, (.int .i64 (.ofNat 16))), (2, t14)] fun t15 =>
K.fldK 2 t2 fun t16 =>
K.ldK ctx 3 t16 h5 fun t17 =>
K.bldSK ctx 160 [(0, (.int .u8 (.ofNat 9))), (1, (.int .i64 (.ofNat 8))), (2, t17)] fun t18 =>
K.bldAK ctx 161 3 [(0, t6), (1, t7), (2, t10), (3, t11), (4, t12), (5, t15), (6, t18)] fun t19 =>
K.stsK 21 t4 t19 h5 fun h20 =>
K.unmarkK [] h20 fun h21 => K.asPtr t4 fun n22 n23 => K.loads h21 n22 n23 21 fun t24 => .ok (.agg t24) h21)
noncomputable def r72 : K.KRun → List AV → H → K.KR := fun run args h => K.uncons args fun t0 l1 => K.uncons l1 fun t2 l3 => K.unnil l3 (
K.allocK (K.zN ctx 53) (K.zT ctx 53) h fun t4 h5 =>
K.rK (convA ctx 5 3 t0 h5) fun t6 h7 =>
K.oK (K.binV ctx .rem 3 true t6 (.int .i64 (.ofNat 20))) fun t8 =>
K.addK (K.binV ctx .add 3 true (.int .i64 (.ofNat 2)) t8) (.int .i64 (.ofNat 2)) t8 fun t9 =>
K.rK (convA ctx 5 3 t2 h7) fun t10 h11 =>
K.oK (K.binV ctx .rem 3 true t10 (.int .i64 (.ofNat 60))) fun t12 =>
K.addK (K.binV ctx .add 3 true (.int .i64 (.ofNat 2)) t12) (.int .i64 (.ofNat 2)) t12 fun t13 =>
K.bldSK ctx 53 [(0, (.int .i64 (.ofNat 1))), (1, t9), (2, t13)] fun t14 =>
K.stsK 3 t4 t14 h11 fun h15 =>
K.unmarkK [] h15 fun h16 => K.asPtr t4 fun n17 n18 => K.loads h16 n17 n18 3 fun t19 => .ok (.agg t19) h16)
noncomputable def r78 : K.KRun → List AV → H → K.KR := fun run args h => K.uncons args fun t0 l1 => K.unnil l1 (
K.eqK (K.binV ctx .eql 46 true t0 .nilPtr) t0 .nilPtr fun t2 =>
K.iteV t2 (
K.unmarkK [] h fun h3 => .ok (.int .i64 (.ofNat 0)) h3) (
K.nilK t0 fun t4 =>
K.fldK 0 t4 fun t5 =>
K.ldK ctx 99 t5 h fun t6 =>
K.lenVK t6 fun t7 =>
K.unmarkK [] h fun h8 => .ok t7 h8))
noncomputable def r79 : K.KRun → List AV → H → K.KR := fun run args h => K.uncons args fun t0 l1 => K.unnil l1 (
K.boxK t0 h fun t2 h3 =>
K.unmarkK [] h3 fun h4 => .ok (.func (.func 108) [] [t2]) h4)
noncomputable def r80 : K.KRun → List AV → H → K.KR := fun run args h => K.uncons args fun t0 l1 => K.uncons l1 fun t2 l3 => K.unnil l3 (
K.letK (fun (l4 : List AV) (m5 : List Nat) (h6 : H) => K.unnil l4 (
K.unmarkK m5 h6 fun h8 => .ok (.int .i64 (.ofNat 0)) h8)) fun j7 =>
K.loopV (nat_lit 1000000) (fun s12 l9 m10 h11 => K.uncons l9 fun t13 l14 => K.uncons l14 fun t15 l16 => K.uncons l16 fun t17 l18 => K.unnil l18 (
K.ltK (K.binV ctx .lss 3 false t17 t15) t17 t15 fun t19 =>
K.iteV t19 (
K.callVK run t13 [t17] h11 fun t20 h21 =>
K.neK (K.binV ctx .neq 29 true t20 (.int .i64 (.ofNat 0))) t20 (.int .i64 (.ofNat 0)) fun t22 =>
K.iteV t22 (
K.unmarkK m10 h21 fun h23 => .ok t20 h23) (
K.addK (K.binV ctx .add 3 true t17 (.int .i64 (.ofNat 1))) t17 (.int .i64 (.ofNat 1)) fun t24 =>
s12 [t13, t15, t24] m10 h21)) (
j7 [] m10 h11))) [t2, t0, (.int .i64 (.ofNat 0))] [] h)
noncomputable def r81 : K.KRun → List AV → H → K.KR := fun run args h => K.uncons args fun t0 l1 => K.uncons l1 fun t2 l3 => K.unnil l3 (
K.callFK run 67 [t0, t2, (.func (.func 109) [] [])] h fun t4 h5 =>
K.unmarkK [] h5 fun h6 => .ok t4 h6)
noncomputable def r82 : K.KRun → List AV → H → K.KR := fun run args h => K.uncons args fun t0 l1 => K.unnil l1 (
K.eqK (K.binV ctx .eql 46 true t0 .nilPtr) t0 .nilPtr fun t2 =>
K.iteV t2 (
K.unmarkK [] h fun h3 => .ok (.int .i64 (.ofNat 2)) h3) (
K.letK (fun (l4 : List AV) (m5 : List Nat) (h6 : H) => K.unnil l4 (
K.unmarkK m5 h6 fun h8 => .ok (.int .i64 (.ofNat 0)) h8)) fun j7 =>
K.nilK t0 fun t9 =>
K.fldK 0 t9 fun t10 =>
K.ldK ctx 99 t10 h fun t11 =>
K.callFK run 106 [t11] h fun t12 h13 =>
K.hNew h13 .marks fun r14 h15 => K.hNew h15 (.loop .ready none (K.mkT [11] [t12]) 3 r14) fun n16 h17 =>
K.rngK ctx run t12 n16 h17 (fun h19 => j7 [] (r14 :: []) h19) (fun h20 => K.unmarkK (r14 :: []) h20 fun h23 => .bad) fun i18 h21 => (Bool.rec (motive := fun _ => K.KR) (.bad) (j7 [] (r14 :: []) h21) (Nat.beq i18 0))))
noncomputable def r83 : K.KRun → List AV → H → K.KR := fun run args h => K.uncons args fun t0 l1 => K.uncons l1 fun t2 l3 => K.unnil l3 (
K.boxK t2 h fun t4 h5 =>
K.allocK (K.zN ctx 67) (K.zT ctx 67) h5 fun t6 h7 =>
K.nilK t0 fun t8 =>
K.fldK 0 t8 fun t9 =>
K.ldK ctx 46 t9 h7 fun t10 =>
K.fldK 1 t4 fun t11 =>
K.ldK ctx 3 t11 h7 fun t12 =>
K.callFK run 40 [t10, t12] h7 fun t13 h14 =>
K.bldSK ctx 67 [(0, t13)] fun t15 =>
K.stsK 14 t6 t15 h14 fun h16 =>
K.unmarkK [] h16 fun h17 => K.asPtr t6 fun n18 n19 => K.loads h17 n18 n19 14 fun t20 => .ok (.agg t20) h17)
noncomputable def r84 : K.KRun → List AV → H → K.KR := fun run args h => K.uncons args fun t0 l1 => K.uncons l1 fun t2 l3 => K.unnil l3 (
K.boxK t2 h fun t4 h5 =>
K.allocK (K.zN ctx 67) (K.zT ctx 67) h5 fun t6 h7 =>
K.nilK t0 fun t8 =>
K.fldK 0 t8 fun t9 =>
K.ldK ctx 46 t9 h7 fun t10 =>
K.fldK 14 t4 fun t11 =>
K.ldK ctx 60 t11 h7 fun t12 =>
K.callFK run 110 [t10, t12] h7 fun t13 h14 =>
K.nilK t0 fun t15 =>
K.fldK 1 t15 fun t16 =>
K.stK t16 .nilPtr h14 fun h17 =>
K.nilK t0 fun t18 =>
K.fldK 2 t18 fun t19 =>
K.stK t19 .nilPtr h17 fun h20 =>
K.letK (fun (l21 : List AV) (m22 : List Nat) (h23 : H) => K.uncons l21 fun t25 l26 => K.uncons l26 fun t27 l28 => K.uncons l28 fun t29 l30 => K.unnil l30 (
K.letK (fun (l31 : List AV) (m32 : List Nat) (h33 : H) => K.uncons l31 fun t35 l36 => K.uncons l36 fun t37 l38 => K.unnil l38 (
K.bldSK ctx 67 [(0, t37)] fun t39 =>
K.stsK 14 t35 t39 h33 fun h40 =>
K.unmarkK m32 h40 fun h41 => K.asPtr t35 fun n42 n43 => K.loads h41 n42 n43 14 fun t44 => .ok (.agg t44) h41)) fun j34 =>
K.eqK (K.binV ctx .eql 29 true t29 (.int .i64 (.ofNat 0))) t29 (.int .i64 (.ofNat 0)) fun t45 =>
K.iteV t45 (
K.callFK run 112 [t25] h23 fun t46 h47 =>
j34 [t27, t46] m22 h47) (
j34 [t27, t29] m22 h23))) fun j24 =>
K.eqK (K.binV ctx .eql 29 true t13 (.int .i64 (.ofNat 0))) t13 (.int .i64 (.ofNat 0)) fun t48 =>
K.iteV t48 (
K.nilK t0 fun t49 =>
K.fldK 0 t49 fun t50 =>
K.ldK ctx 46 t50 h20 fun t51 =>
K.callFK run 111 [t51] h20 fun t52 h53 =>
K.extK t52 0 fun t54 =>
K.extK t52 1 fun t55 =>
K.nilK t0 fun t56 =>
K.fldK 2 t56 fun t57 =>
K.stK t57 t54 h53 fun h58 =>
j24 [t0, t6, t55] [] h58) (
j24 [t0, t6, t13] [] h20))
noncomputable def r85 : K.KRun → List AV → H → K.KR := fun run args h => K.uncons args fun t0 l1 => K.uncons l1 fun t2 l3 => K.unnil l3 (
K.boxK t2 h fun t4 h5 =>
K.allocK (K.zN ctx 67) (K.zT ctx 67) h5 fun t6 h7 =>
K.nilK t0 fun t8 =>
K.fldK 2 t8 fun t9 =>
K.ldK ctx 109 t9 h7 fun t10 =>
K.callFK run 113 [t10] h7 fun t11 h12 =>
K.extK t11 0 fun t13 =>
K.extK t11 1 fun t14 =>
K.callFK run 112 [t0] h12 fun t15 h16 =>
K.rK (convA ctx 201 3 t13 h16) fun t17 h18 =>
K.bldSK ctx 67 [(1, t17), (0, t14)] fun t19 =>
K.stsK 14 t6 t19 h18 fun h20 =>
K.unmarkK [] h20 fun h21 => K.asPtr t6 fun n22 n23 => K.loads h21 n22 n23 14 fun t24 => .ok (.agg t24) h21)
noncomputable def r87 : K.KRun → List AV → H → K.KR := fun run args h => K.uncons args fun t0 l1 => K.uncons l1 fun t2 l3 => K.unnil l3 (
K.boxK t2 h fun t4 h5 =>
K.allocK (K.zN ctx 67) (K.zT ctx 67) h5 fun t6 h7 =>
K.nilK t0 fun t8 =>
K.fldK 1 t8 fun t9 =>
K.ldK ctx 28 t9 h7 fun t10 =>
K.fldK 2 t4 fun t11 =>
K.ldsK ctx 27 12 t11 h7 fun t12 =>
K.callFK run 6 [t10, t12] h7 fun t13 h14 =>
K.extK t13 0 fun t15 =>
K.extK t13 1 fun t16 =>
K.bldSK ctx 67 [(1, t15), (0, t16)] fun t17 =>
K.stsK 14 t6 t17 h14 fun h18 =>
K.unmarkK [] h18 fun h19 => K.asPtr t6 fun n20 n21 => K.loads h19 n20 n21 14 fun t22 => .ok (.agg t22) h19)
noncomputable def r88 : K.KRun → List AV → H → K.KR := fun run args h => K.uncons args fun t0 l1 => K.uncons l1 fun t2 l3 => K.unnil l3 (
K.boxK t2 h fun t4 h5 =>
K.allocK (K.zN ctx 67) (K.zT ctx 67) h5 fun t6 h7 =>
K.nilK t0 fun t8 =>
K.fldK 1 t8 fun t9 =>
K.ldK ctx 28 t9 h7 fun t10 =>
K.fldK 1 t4 fun t11 =>
K.ldK ctx 3 t11 h7 fun t12 =>
K.callFK run 7 [t10, t12] h7 fun t13 h14 =>
K.extK t13 0 fun t15 =>
K.extK t13 1 fun t16 =>
K.rK (convA ctx 34 3 t15 h14) fun t17 h18 =>
K.bldSK ctx 67 [(1, t17), (0, t16)] fun t19 =>
K.stsK 14 t6 t19 h18 fun h20 =>
K.unmarkK [] h20 fun h21 => K.asPtr t6 fun n22 n23 => K.loads h21 n22 n23 14 fun t24 => .ok (.agg t24) h21)
noncomputable def r90 : K.KRun → List AV → H → K.KR := fun run args h => K.uncons args fun t0 l1 => K.uncons l1 fun t2 l3 => K.unnil l3 (
K.boxK t2 h fun t4 h5 =>
K.allocK (K.zN ctx 67) (K.zT ctx 67) h5 fun t6 h7 =>
K.nilK t0 fun t8 =>
K.fldK 1 t8 fun t9 =>
K.ldK ctx 28 t9 h7 fun t10 =>
K.fldK 2 t4 fun t11 =>
K.fldK 1 t11 fun t12 =>
K.ldK ctx 3 t12 h7 fun t13 =>
K.fldK 2 t4 fun t14 =>
K.fldK 2 t14 fun t15 =>
K.ldK ctx 23 t15 h7 fun t16 =>
K.fldK 2 t4 fun t17 =>
K.fldK 3 t17 fun t18 =>
K.ldK ctx 23 t18 h7 fun t19 =>
K.callFK run 9 [t10, t13, t16, t19] h7 fun t20 h21 =>
K.extK t20 0 fun t22 =>
K.extK t20 1 fun t23 =>
K.extK t20 2 fun t24 =>
K.allocK (K.zN ctx 39) (K.zT ctx 39) h21 fun t25 h26 =>
K.stsK 4 t25 t23 h26 fun h27 =>
K.ldsK ctx 39 4 t25 h27 fun t28 =>
K.bldSK ctx 67 [(2, t22), (3, t28), (0, t24)] fun t29 =>
K.stsK 14 t6 t29 h27 fun h30 =>
K.unmarkK [] h30 fun h31 => K.asPtr t6 fun n32 n33 => K.loads h31 n32 n33 14 fun t34 => .ok (.agg t34) h31)
noncomputable def r92 : K.KRun → List AV → H → K.KR := fun run args h => K.uncons args fun t0 l1 => K.unnil l1 (
K.callFK run 115 [(.int .i64 (.ofNat 0)), t0, (.int .i64 (.ofNat 4))] h fun t2 h3 =>
K.unmarkK [] h3 fun h4 => .ok t2 h4)
noncomputable def r93 : K.KRun → List AV → H → K.KR := fun run args h => K.uncons args fun t0 l1 => K.uncons l1 fun t2 l3 => K.unnil l3 (
K.boxK t0 h fun t4 h5 =>
K.boxK t2 h5 fun t6 h7 =>
K.allocK (K.zN ctx 176) (K.zT ctx 176) h7 fun t8 h9 =>
K.letK (fun (l10 : List AV) (m11 : List Nat) (h12 : H) => K.uncons l10 fun t14 l15 => K.unnil l15 (
K.bldSK ctx 176 [] fun t16 =>
K.stsK 3 t14 t16 h12 fun h17 =>
K.unmarkK m11 h17 fun h18 => K.asPtr t14 fun n19 n20 => K.loads h18 n19 n20 3 fun t21 => .ok (.agg t21) h18)) fun j13 =>
K.fldK 0 t6 fun t22 =>
K.ldK ctx 22 t22 h9 fun t23 =>
K.eqK (K.binV ctx .eql 22 true t23 (.int .u8 (.ofNat 1))) t23 (.int .u8 (.ofNat 1)) fun t24 =>
K.iteV t24 (
K.fldK 0 t4 fun t25 =>
K.ldK ctx 97 t25 h9 fun t26 =>
K.fldK 4 t4 fun t27 =>
K.ldK ctx 3 t27 h9 fun t28 =>
K.fldK 2 t6 fun t29 =>
K.ldK ctx 23 t29 h9 fun t30 =>
K.fldK 3 t6 fun t31 =>
K.ldK ctx 23 t31 h9 fun t32 =>
K.callFK run 37 [t26, t28, t30, t32] h9 fun t33 h34 =>
K.extK t33 0 fun t35 =>
K.extK t33 1 fun t36 =>
K.extK t33 2 fun t37 =>
K.allocK (K.zN ctx 39) (K.zT ctx 39) h34 fun t38 h39 =>
K.stsK 4 t38 t36 h39 fun h40 =>
K.eqK (K.binV ctx .eql 29 true t37 (.int .i64 (.ofNat 0))) t37 (.int .i64 (.ofNat 0)) fun t41 =>
K.letK (fun (t42 : AV) (h43 : H) => K.letK (fun (t45 : AV) (h46 : H) => K.pickK t41 t45 (.bool false) fun t48 =>
K.letK (fun (t49 : AV) (h50 : H) => K.letK (fun (t52 : AV) (h53 : H) => K.letK (fun (t55 : AV) (h56 : H) => K.pickK t48 t55 (.bool false) fun t58 =>
K.iteV t58 (
K.ldsK ctx 178 5 t4 h56 fun t59 =>
K.fldK 4 t6 fun t60 =>
K.ldsK ctx 25 8 t60 h56 fun t61 =>
K.callFK run 117 [t59, t61] h56 fun t62 h63 =>
K.stsK 3 t8 t62 h63 fun h64 =>
K.unmarkK [] h64 fun h65 => K.asPtr t8 fun n66 n67 => K.loads h65 n66 n67 3 fun t68 => .ok (.agg t68) h65) (
j13 [t8] [] h56)) fun j57 =>
K.guK true t48 (K.callFK run 116 [t52] h53 fun t69 h70 =>
j57 t69 h70) (j57 (.tup []) h53)) fun j54 =>
K.guK true t48 (K.ldsK ctx 25 8 t49 h50 fun t71 =>
j54 t71 h50) (j54 (.tup []) h50)) fun j51 =>
K.guK true t48 (K.fldK 4 t6 fun t72 =>
j51 t72 h46) (j51 (.tup []) h46)) fun j47 =>
K.guK true t41 (K.eqK (K.binV ctx .eql 37 true t42 (.int .u8 (.ofNat 0))) t42 (.int .u8 (.ofNat 0)) fun t73 =>
j47 t73 h43) (j47 (.tup []) h43)) fun j44 =>
K.guK true t41 (j44 t35 h40) (j44 (.tup []) h40)) (
K.eqK (K.binV ctx .eql 22 true t23 (.int .u8 (.ofNat 4))) t23 (.int .u8 (.ofNat 4)) fun t74 =>
K.iteV t74 (
K.fldK 0 t4 fun t75 =>
K.ldK ctx 97 t75 h9 fun t76 =>
K.fldK 4 t4 fun t77 =>
K.ldK ctx 3 t77 h9 fun t78 =>
K.callFK run 102 [t76, t78] h9 fun t79 h80 =>
K.extK t79 0 fun t81 =>
K.extK t79 1 fun t82 =>
K.allocK (K.zN ctx 143) (K.zT ctx 143) h80 fun t83 h84 =>
K.stsK 3 t83 t81 h84 fun h85 =>
K.eqK (K.binV ctx .eql 29 true t82 (.int .i64 (.ofNat 0))) t82 (.int .i64 (.ofNat 0)) fun t86 =>
K.letK (fun (t87 : AV) (h88 : H) => K.letK (fun (t90 : AV) (h91 : H) => K.pickK t86 t90 (.bool false) fun t93 =>
K.letK (fun (t94 : AV) (h95 : H) => K.letK (fun (t97 : AV) (h98 : H) => K.letK (fun (t100 : AV) (h101 : H) => K.letK (fun (t103 : AV) (h104 : H) => K.letK (fun (t106 : AV) (h107 : H) => K.pickK t93 t106 (.bool false) fun t109 =>
K.iteV t109 (
K.letK (fun (l110 : List AV) (m111 : List Nat) (h112 : H) => K.uncons l110 fun t114 l115 => K.uncons l115 fun t116 l117 => K.uncons l117 fun t118 l119 => K.unnil l119 (
K.ldsK ctx 178 5 t114 h112 fun t120 =>
K.callFK run 118 [t120, t118] h112 fun t121 h122 =>
K.bldSK ctx 176 [(0, (.bool true)), (1, (.bool true)), (2, t121)] fun t123 =>
K.stsK 3 t116 t123 h122 fun h124 =>
K.unmarkK m111 h124 fun h125 => K.asPtr t116 fun n126 n127 => K.loads h125 n126 n127 3 fun t128 => .ok (.agg t128) h125)) fun j113 =>
K.loopV (nat_lit 1000000) (fun s132 l129 m130 h131 => K.uncons l129 fun t133 l134 => K.uncons l134 fun t135 l136 => K.uncons l136 fun t137 l138 => K.uncons l138 fun t139 l140 => K.unnil l140 (
K.ltK (K.binV ctx .lss 23 true t139 (.int .u64 (.ofNat 4))) t139 (.int .u64 (.ofNat 4)) fun t141 =>
K.iteV t141 (
K.bslK ctx 23 1 1 [(0, t139)] h131 fun t142 h143 =>
K.appK ctx 23 1 t137 t142 h143 fun t144 h145 =>
K.addK (K.binV ctx .add 23 true t139 (.int .u64 (.ofNat 1))) t139 (.int .u64 (.ofNat 1)) fun t146 =>
s132 [t133, t135, t144, t146] m130 h145) (
j113 [t133, t135, t137] m130 h131))) [t4, t8, .nilSlice, (.int .u64 (.ofNat 0))] [] h107) (
j13 [t8] [] h107)) fun j108 =>
K.guK true t93 (K.eqK (K.binV ctx .eql 23 false t97 t103) t97 t103 fun t147 =>
j108 t147 h104) (j108 (.tup []) h104)) fun j105 =>
K.guK true t93 (K.ldK ctx 23 t100 h101 fun t148 =>
j105 t148 h101) (j105 (.tup []) h101)) fun j102 =>
K.guK true t93 (K.fldK 2 t6 fun t149 =>
j102 t149 h98) (j102 (.tup []) h98)) fun j99 =>
K.guK true t93 (K.ldK ctx 23 t94 h95 fun t150 =>
j99 t150 h95) (j99 (.tup []) h95)) fun j96 =>
K.guK true t93 (K.fldK 1 t83 fun t151 =>
j96 t151 h91) (j96 (.tup []) h91)) fun j92 =>
K.guK true t86 (K.ldK ctx 4 t87 h88 fun t152 =>
j92 t152 h88) (j92 (.tup []) h88)) fun j89 =>
K.guK true t86 (K.fldK 0 t83 fun t153 =>
j89 t153 h85) (j89 (.tup []) h85)) (
j13 [t8] [] h9)))
noncomputable def r95 : K.KRun → List AV → H → K.KR := fun run args h => K.uncons args fun t0 l1 => K.unnil l1 (
K.callFK run 119 [t0] h fun t2 h3 =>
K.callFK run 120 [t2] h3 fun t4 h5 =>
K.unmarkK [] h5 fun h6 => .ok t2 h6)
noncomputable def r96 : K.KRun → List AV → H → K.KR := fun run args h => K.uncons args fun t0 l1 => K.unnil l1 (
K.boxK t0 h fun t2 h3 =>
K.unmarkK [] h3 fun h4 => .ok (.func (.func 121) [] [t2]) h4)
end YtjhcfoinldcaoaaGreatDoorWdM
