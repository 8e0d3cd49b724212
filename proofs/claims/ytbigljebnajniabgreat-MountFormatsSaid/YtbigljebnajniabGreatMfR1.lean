/- PRINTED BY Gen2.lean (own): functions as plain texts, part 1. -/
import Derived.Test.YtbigljebnajniabGreatMfCtx
namespace YtbigljebnajniabGreatMfM
open Go Am
set_option maxRecDepth 100000
noncomputable def r45 : K.KRun → List AV → H → K.KR := fun run args h => K.uncons args fun t0 l1 => K.unnil l1 (
K.boxK t0 h fun t2 h3 =>
K.allocK (K.zN ctx 94) (K.zT ctx 94) h3 fun t4 h5 =>
K.bldSK ctx 93 [(0, (.int .u8 (.ofNat 1))), (1, (.int .i64 (.ofNat 8))), (2, (.int .i64 (.ofNat 1)))] fun t6 =>
K.bldSK ctx 93 [(0, (.int .u8 (.ofNat 2))), (1, (.int .i64 (.ofNat 64))), (2, (.int .i64 (.ofNat 4)))] fun t7 =>
K.fldK 0 t2 fun t8 =>
K.ldK ctx 3 t8 h5 fun t9 =>
K.bldSK ctx 93 [(0, (.int .u8 (.ofNat 5))), (1, (.int .i64 (.ofNat 208))), (2, t9)] fun t10 =>
K.bldSK ctx 93 [(0, (.int .u8 (.ofNat 6))), (1, (.int .i64 (.ofNat 8))), (2, (.int .i64 (.ofNat 1)))] fun t11 =>
K.bldSK ctx 93 [(0, (.int .u8 (.ofNat 7))), (1, (.int .i64 (.ofNat 8))), (2, (.int .i64 (.ofNat 1)))] fun t12 =>
K.fldK 1 t2 fun t13 =>
K.ldK ctx 3 t13 h5 fun t14 =>
K.bldSK ctx 93 [(0, (.int .u8 (.ofNat 8))), (1, (.int .i64 (.ofNat 16))), (2, t14)] fun t15 =>
K.fldK 2 t2 fun t16 =>
K.ldK ctx 3 t16 h5 fun t17 =>
K.bldSK ctx 93 [(0, (.int .u8 (.ofNat 9))), (1, (.int .i64 (.ofNat 8))), (2, t17)] fun t18 =>
K.bldAK ctx 94 3 [(0, t6), (1, t7), (2, t10), (3, t11), (4, t12), (5, t15), (6, t18)] fun t19 =>
K.stsK 21 t4 t19 h5 fun h20 =>
K.unmarkK [] h20 fun h21 => K.asPtr t4 fun n22 n23 => K.loads h21 n22 n23 21 fun t24 => .ok (.agg t24) h21)
noncomputable def r46 : K.KRun → List AV → H → K.KR := fun run args h => K.uncons args fun t0 l1 => K.uncons l1 fun t2 l3 => K.unnil l3 (
K.boxK t0 h fun t4 h5 =>
K.ldsK ctx 25 3 t4 h5 fun t6 =>
K.callFK run 54 [t6, (.int .u8 (.ofNat 5)), t2] h5 fun t7 h8 =>
K.unmarkK [] h8 fun h9 => .ok t7 h9)
noncomputable def r47 : K.KRun → List AV → H → K.KR := fun run args h => K.uncons args fun t0 l1 => K.uncons l1 fun t2 l3 => K.unnil l3 (
K.boxK t0 h fun t4 h5 =>
K.ldsK ctx 25 3 t4 h5 fun t6 =>
K.callFK run 29 [t6] h5 fun t7 h8 =>
K.notK t7 fun t9 =>
K.letK (fun (t10 : AV) (h11 : H) => K.letK (fun (t13 : AV) (h14 : H) => K.letK (fun (t16 : AV) (h17 : H) => K.pickK t9 (.bool true) t16 fun t19 =>
K.iteV t19 (
K.unmarkK [] h17 fun h20 => .ok (.bool false) h20) (
K.slowK ctx run (K.opAt Go.Proofs.Tryz.f47 3 0) [] [] h17 fun t21 h22 =>
K.letK (fun (l23 : List AV) (m24 : List Nat) (h25 : H) => K.unnil l23 (
K.unmarkK m24 h25 fun h27 => .ok (.bool true) h27)) fun j26 =>
K.lenVK t2 fun t28 =>
K.loopV (nat_lit 1000000) (fun s32 l29 m30 h31 => K.uncons l29 fun t33 l34 => K.uncons l34 fun t35 l36 => K.uncons l36 fun t37 l38 => K.uncons l38 fun t39 l40 => K.uncons l40 fun t41 l42 => K.unnil l42 (
K.ltK (K.binV ctx .lss 3 false t41 t39) t41 t39 fun t43 =>
K.iteV t43 (
K.idxSK 2 t37 t41 fun t44 =>
K.ldsK ctx 52 2 t44 h31 fun t45 =>
K.allocK (K.zN ctx 52) (K.zT ctx 52) h31 fun t46 h47 =>
K.stsK 2 t46 t45 h47 fun h48 =>
K.ldsK ctx 25 3 t33 h48 fun t49 =>
K.fldK 0 t46 fun t50 =>
K.ldK ctx 3 t50 h48 fun t51 =>
K.callFK run 71 [t49, t51] h48 fun t52 h53 =>
K.extK t52 0 fun t54 =>
K.extK t52 1 fun t55 =>
K.extK t52 2 fun t56 =>
K.extK t52 3 fun t57 =>
K.callFK run 72 [t54] h53 fun t58 h59 =>
K.notK t58 fun t60 =>
K.letK (fun (t61 : AV) (h62 : H) => K.letK (fun (t64 : AV) (h65 : H) => K.letK (fun (t67 : AV) (h68 : H) => K.letK (fun (t70 : AV) (h71 : H) => K.letK (fun (t73 : AV) (h74 : H) => K.pickK t60 (.bool true) t73 fun t76 =>
K.iteV t76 (
K.unmarkK m30 h74 fun h77 => .ok (.bool false) h77) (
K.fldK 0 t46 fun t78 =>
K.ldK ctx 3 t78 h74 fun t79 =>
K.slowK ctx run (K.opAt Go.Proofs.Tryz.f47 10 3) [46, 48] [t35, t79] h74 fun t80 h81 =>
K.addK (K.binV ctx .add 3 true t41 (.int .i64 (.ofNat 1))) t41 (.int .i64 (.ofNat 1)) fun t82 =>
s32 [t33, t35, t37, t39, t82] m30 h81)) fun j75 =>
K.guK false t60 (K.gtK (K.binV ctx .gtr 3 true t70 (.int .i64 (.ofNat 0))) t70 (.int .i64 (.ofNat 0)) fun t83 =>
j75 t83 h71) (j75 (.tup []) h71)) fun j72 =>
K.guK false t60 (K.slowK ctx run (K.opAt Go.Proofs.Tryz.f47 8 7) [40, 42] [t61, t67] h68 fun t84 h85 =>
j72 t84 h85) (j72 (.tup []) h68)) fun j69 =>
K.guK false t60 (K.ldK ctx 3 t64 h65 fun t86 =>
j69 t86 h65) (j69 (.tup []) h65)) fun j66 =>
K.guK false t60 (K.fldK 0 t46 fun t87 =>
j66 t87 h62) (j66 (.tup []) h62)) fun j63 =>
K.guK false t60 (j63 t35 h59) (j63 (.tup []) h59)) (
j26 [] m30 h31))) [t4, t21, t2, t28, (.int .i64 (.ofNat 0))] [] h22)) fun j18 =>
K.guK false t9 (K.gtK (K.binV ctx .gtr 3 true t13 (.int .i64 (.ofNat 96))) t13 (.int .i64 (.ofNat 96)) fun t88 =>
j18 t88 h14) (j18 (.tup []) h14)) fun j15 =>
K.guK false t9 (K.lenVK t10 fun t89 =>
j15 t89 h11) (j15 (.tup []) h11)) fun j12 =>
K.guK false t9 (j12 t2 h8) (j12 (.tup []) h8))
noncomputable def r48 : K.KRun → List AV → H → K.KR := fun run args h => K.uncons args fun t0 l1 => K.unnil l1 (
K.allocK (K.zN ctx 27) (K.zT ctx 27) h fun t2 h3 =>
K.lenVK t0 fun t4 =>
K.gtK (K.binV ctx .gtr 3 true t4 (.int .i64 (.ofNat 96))) t4 (.int .i64 (.ofNat 96)) fun t5 =>
K.iteV t5 (
K.stK t2 .nilSlice h3 fun h6 =>
K.unmarkK [] h6 fun h7 => K.asPtr t2 fun n8 n9 => K.load1 h7 n8 n9 fun t10 => .ok (.tup [t10, (.int .i64 (.ofNat 5))]) h7) (
K.lenVK t0 fun t11 =>
K.rK (convA ctx 3 37 t11 h3) fun t12 h13 =>
K.bslK ctx 37 1 1 [(0, t12)] h13 fun t14 h15 =>
K.callVK run (.func (.func 73) [] [t2]) [t14] h15 fun t16 h17 =>
K.letK (fun (l18 : List AV) (m19 : List Nat) (h20 : H) => K.uncons l18 fun t22 l23 => K.uncons l23 fun t24 l25 => K.unnil l25 (
K.ldK ctx 27 t22 h20 fun t26 =>
K.callFK run 74 [t26] h20 fun t27 h28 =>
K.bslK ctx 37 1 1 [(0, t27)] h28 fun t29 h30 =>
K.callVK run t24 [t29] h30 fun t31 h32 =>
K.ldK ctx 27 t22 h32 fun t33 =>
K.stK t22 t33 h32 fun h34 =>
K.unmarkK m19 h34 fun h35 => K.asPtr t22 fun n36 n37 => K.load1 h35 n36 n37 fun t38 => .ok (.tup [t38, (.int .i64 (.ofNat 0))]) h35)) fun j21 =>
K.lenVK t0 fun t39 =>
K.loopV (nat_lit 1000000) (fun s43 l40 m41 h42 => K.uncons l40 fun t44 l45 => K.uncons l45 fun t46 l47 => K.uncons l47 fun t48 l49 => K.uncons l49 fun t50 l51 => K.uncons l51 fun t52 l53 => K.unnil l53 (
K.ltK (K.binV ctx .lss 3 false t52 t50) t52 t50 fun t54 =>
K.iteV t54 (
K.idxSK 2 t48 t52 fun t55 =>
K.ldsK ctx 52 2 t55 h42 fun t56 =>
K.allocK (K.zN ctx 52) (K.zT ctx 52) h42 fun t57 h58 =>
K.stsK 2 t57 t56 h58 fun h59 =>
K.fldK 0 t57 fun t60 =>
K.ldK ctx 3 t60 h59 fun t61 =>
K.ltK (K.binV ctx .lss 3 true t61 (.int .i64 (.ofNat 0))) t61 (.int .i64 (.ofNat 0)) fun t62 =>
K.iteV t62 (
K.stK t44 .nilSlice h59 fun h63 =>
K.unmarkK m41 h63 fun h64 => K.asPtr t44 fun n65 n66 => K.load1 h64 n65 n66 fun t67 => .ok (.tup [t67, (.int .i64 (.ofNat 1))]) h64) (
K.fldK 0 t57 fun t68 =>
K.ldK ctx 3 t68 h59 fun t69 =>
K.rK (convA ctx 3 37 t69 h59) fun t70 h71 =>
K.fldK 1 t57 fun t72 =>
K.ldK ctx 37 t72 h71 fun t73 =>
K.bslK ctx 37 1 2 [(0, t70), (1, t73)] h71 fun t74 h75 =>
K.callVK run t46 [t74] h75 fun t76 h77 =>
K.addK (K.binV ctx .add 3 true t52 (.int .i64 (.ofNat 1))) t52 (.int .i64 (.ofNat 1)) fun t78 =>
s43 [t44, t46, t48, t50, t78] m41 h77)) (
j21 [t44, t46] m41 h42))) [t2, (.func (.func 73) [] [t2]), t0, t39, (.int .i64 (.ofNat 0))] [] h17))
noncomputable def r49 : K.KRun → List AV → H → K.KR := fun run args h => K.uncons args fun t0 l1 => K.uncons l1 fun t2 l3 => K.uncons l3 fun t4 l5 => K.uncons l5 fun t6 l7 => K.unnil l7 (
K.callFK run 75 [t0, t2, t6] h fun t8 h9 =>
K.callFK run 76 [t0, t4, t6] h9 fun t10 h11 =>
K.unmarkK [] h11 fun h12 => .ok (.tup []) h12)
noncomputable def r50 : K.KRun → List AV → H → K.KR := fun run args h => K.uncons args fun t0 l1 => K.uncons l1 fun t2 l3 => K.uncons l3 fun t4 l5 => K.unnil l5 (
K.nilK t0 fun t6 =>
K.fldK 4 t6 fun t7 =>
K.ldK ctx 3 t7 h fun t8 =>
K.bldSK ctx 52 [(0, t8), (1, t4)] fun t9 =>
K.bslK ctx 52 2 1 [(0, t9)] h fun t10 h11 =>
K.callFK run 49 [t0, t2, t2, t10] h11 fun t12 h13 =>
K.unmarkK [] h13 fun h14 => .ok (.tup []) h14)
noncomputable def r51 : K.KRun → List AV → H → K.KR := fun run args h => K.uncons args fun t0 l1 => K.unnil l1 (
K.callFK run 77 [t0] h fun t2 h3 =>
K.extK t2 0 fun t4 =>
K.extK t2 1 fun t5 =>
K.extK t2 2 fun t6 =>
K.notK t6 fun t7 =>
K.iteV t7 (
K.unmarkK [] h3 fun h8 => .ok (.int .u64 (.ofNat 0)) h8) (
K.oK (K.binV ctx .shl 37 true t5 (.int .u64 (.ofNat 16))) fun t9 =>
K.idxSK 1 t4 (.int .i64 (.ofNat 0)) fun t10 =>
K.ldK ctx 37 t10 h3 fun t11 =>
K.oK (K.binV ctx .shl 37 true t11 (.int .u64 (.ofNat 8))) fun t12 =>
K.oK (K.binV ctx .or 37 false t9 t12) fun t13 =>
K.oK (K.binV ctx .or 37 true t13 (.int .u64 (.ofNat 1))) fun t14 =>
K.unmarkK [] h3 fun h15 => .ok t14 h15))
noncomputable def r52 : K.KRun → List AV → H → K.KR := fun run args h => K.uncons args fun t0 l1 => K.uncons l1 fun t2 l3 => K.unnil l3 (
K.callFK run 49 [t0, (.int .u8 (.ofNat 4)), (.int .u8 (.ofNat 5)), t2] h fun t4 h5 =>
K.callFK run 50 [t0, (.int .u8 (.ofNat 6)), (.int .u64 (.ofNat 0))] h5 fun t6 h7 =>
K.unmarkK [] h7 fun h8 => .ok (.tup []) h8)
noncomputable def r53 : K.KRun → List AV → H → K.KR := fun run args h => K.uncons args fun t0 l1 => K.unnil l1 (
K.eqK (K.binV ctx .eql 53 true t0 .nilSlice) t0 .nilSlice fun t2 =>
K.iteV t2 (
K.unmarkK [] h fun h3 => .ok .nilSlice h3) (
K.bslK ctx 52 2 0 [] h fun t4 h5 =>
K.appK ctx 52 2 t4 t0 h5 fun t6 h7 =>
K.unmarkK [] h7 fun h8 => .ok t6 h8))
noncomputable def r54 : K.KRun → List AV → H → K.KR := fun run args h => K.uncons args fun t0 l1 => K.uncons l1 fun t2 l3 => K.uncons l3 fun t4 l5 => K.unnil l5 (
K.boxK t0 h fun t6 h7 =>
K.letK (fun (l8 : List AV) (m9 : List Nat) (h10 : H) => K.unnil l8 (
K.unmarkK m9 h10 fun h12 => .ok (.int .i64 (.negSucc 0)) h12)) fun j11 =>
K.ldsK ctx 25 3 t6 h7 fun t13 =>
K.callFK run 45 [t13] h7 fun t14 h15 =>
K.loopV (nat_lit 1000000) (fun s19 l16 m17 h18 => K.uncons l16 fun t20 l21 => K.uncons l21 fun t22 l23 => K.uncons l23 fun t24 l25 => K.uncons l25 fun t26 l27 => K.uncons l27 fun t28 l29 => K.uncons l29 fun t30 l31 => K.unnil l31 (
K.ltK (K.binV ctx .lss 3 true t30 (.int .i64 (.ofNat 7))) t30 (.int .i64 (.ofNat 7)) fun t32 =>
K.iteV t32 (
K.idxK ctx 93 3 7 t28 t30 fun t33 =>
K.allocK (K.zN ctx 93) (K.zT ctx 93) h18 fun t34 h35 =>
K.stsK 3 t34 t33 h35 fun h36 =>
K.fldK 0 t34 fun t37 =>
K.ldK ctx 91 t37 h36 fun t38 =>
K.neK (K.binV ctx .neq 91 false t38 t20) t38 t20 fun t39 =>
K.iteV t39 (
K.fldK 1 t34 fun t40 =>
K.ldK ctx 3 t40 h36 fun t41 =>
K.fldK 2 t34 fun t42 =>
K.ldK ctx 3 t42 h36 fun t43 =>
K.mulK (K.binV ctx .mul 3 false t41 t43) t41 t43 fun t44 =>
K.addK (K.binV ctx .add 3 false t26 t44) t26 t44 fun t45 =>
K.addK (K.binV ctx .add 3 true t30 (.int .i64 (.ofNat 1))) t30 (.int .i64 (.ofNat 1)) fun t46 =>
s19 [t20, t22, t24, t45, t28, t46] m17 h36) (
K.ldsK ctx 25 3 t24 h36 fun t47 =>
K.callFK run 29 [t47] h36 fun t48 h49 =>
K.letK (fun (t50 : AV) (h51 : H) => K.letK (fun (t53 : AV) (h54 : H) => K.letK (fun (t56 : AV) (h57 : H) => K.letK (fun (t59 : AV) (h60 : H) => K.letK (fun (t62 : AV) (h63 : H) => K.pickK t48 t62 (.bool false) fun t65 =>
K.iteV t65 (
K.fldK 1 t34 fun t66 =>
K.ldK ctx 3 t66 h63 fun t67 =>
K.mulK (K.binV ctx .mul 3 false t67 t22) t67 t22 fun t68 =>
K.addK (K.binV ctx .add 3 false t26 t68) t26 t68 fun t69 =>
K.unmarkK m17 h63 fun h70 => .ok t69 h70) (
j11 [] m17 h63)) fun j64 =>
K.guK true t48 (K.callFK run 65 [t50, (.int .i64 (.ofNat 0)), t59] h60 fun t71 h72 =>
j64 t71 h72) (j64 (.tup []) h60)) fun j61 =>
K.guK true t48 (K.subK (K.binV ctx .sub 3 true t56 (.int .i64 (.ofNat 1))) t56 (.int .i64 (.ofNat 1)) fun t73 =>
j61 t73 h57) (j61 (.tup []) h57)) fun j58 =>
K.guK true t48 (K.ldK ctx 3 t53 h54 fun t74 =>
j58 t74 h54) (j58 (.tup []) h54)) fun j55 =>
K.guK true t48 (K.fldK 2 t34 fun t75 =>
j55 t75 h51) (j55 (.tup []) h51)) fun j52 =>
K.guK true t48 (j52 t22 h49) (j52 (.tup []) h49))) (
j11 [] m17 h18))) [t2, t4, t6, (.int .i64 (.ofNat 0)), t14, (.int .i64 (.ofNat 0))] [] h15)
noncomputable def r55 : K.KRun → List AV → H → K.KR := fun run args h => K.uncons args fun t0 l1 => K.uncons l1 fun t2 l3 => K.unnil l3 (
K.eqK (K.binV ctx .eql 30 true t0 .nilPtr) t0 .nilPtr fun t4 =>
K.iteV t4 (
K.unmarkK [] h fun h5 => .ok (.tup [.nilPtr, (.int .i64 (.ofNat 2))]) h5) (
K.letK (fun (l6 : List AV) (m7 : List Nat) (h8 : H) => K.uncons l6 fun t10 l11 => K.uncons l11 fun t12 l13 => K.uncons l13 fun t14 l15 => K.unnil l15 (
K.iteV t14 (
K.unmarkK m7 h8 fun h16 => .ok (.tup [.nilPtr, (.int .i64 (.ofNat 8))]) h16) (
K.nilK t10 fun t17 =>
K.fldK 0 t17 fun t18 =>
K.ldK ctx 83 t18 h8 fun t19 =>
K.idxSK 6 t19 t12 fun t20 =>
K.unmarkK m7 h8 fun h21 => .ok (.tup [t20, (.int .i64 (.ofNat 0))]) h21))) fun j9 =>
K.ltK (K.binV ctx .lss 3 true t2 (.int .i64 (.ofNat 0))) t2 (.int .i64 (.ofNat 0)) fun t22 =>
K.iteV t22 (
j9 [t0, t2, t22] [] h) (
K.nilK t0 fun t23 =>
K.fldK 0 t23 fun t24 =>
K.ldK ctx 83 t24 h fun t25 =>
K.lenVK t25 fun t26 =>
K.geK (K.binV ctx .geq 3 false t2 t26) t2 t26 fun t27 =>
j9 [t0, t2, t27] [] h)))
noncomputable def r56 : K.KRun → List AV → H → K.KR := fun run args h => K.uncons args fun t0 l1 => K.uncons l1 fun t2 l3 => K.unnil l3 (
K.allocK (K.zN ctx 25) (K.zT ctx 25) h fun t4 h5 =>
K.rK (convA ctx 5 3 t0 h5) fun t6 h7 =>
K.oK (K.binV ctx .rem 3 true t6 (.int .i64 (.ofNat 20))) fun t8 =>
K.addK (K.binV ctx .add 3 true (.int .i64 (.ofNat 2)) t8) (.int .i64 (.ofNat 2)) t8 fun t9 =>
K.rK (convA ctx 5 3 t2 h7) fun t10 h11 =>
K.oK (K.binV ctx .rem 3 true t10 (.int .i64 (.ofNat 60))) fun t12 =>
K.addK (K.binV ctx .add 3 true (.int .i64 (.ofNat 2)) t12) (.int .i64 (.ofNat 2)) t12 fun t13 =>
K.bldSK ctx 25 [(0, (.int .i64 (.ofNat 1))), (1, t9), (2, t13)] fun t14 =>
K.stsK 3 t4 t14 h11 fun h15 =>
K.unmarkK [] h15 fun h16 => K.asPtr t4 fun n17 n18 => K.loads h16 n17 n18 3 fun t19 => .ok (.agg t19) h16)
noncomputable def r57 : K.KRun → List AV → H → K.KR := fun run args h => K.uncons args fun t0 l1 => K.unnil l1 (
K.boxK t0 h fun t2 h3 =>
K.fldK 0 t2 fun t4 =>
K.ldK ctx 3 t4 h3 fun t5 =>
K.geK (K.binV ctx .geq 3 true t5 (.int .i64 (.ofNat 1))) t5 (.int .i64 (.ofNat 1)) fun t6 =>
K.letK (fun (t7 : AV) (h8 : H) => K.letK (fun (t10 : AV) (h11 : H) => K.letK (fun (t13 : AV) (h14 : H) => K.pickK t6 t13 (.bool false) fun t16 =>
K.letK (fun (t17 : AV) (h18 : H) => K.letK (fun (t20 : AV) (h21 : H) => K.letK (fun (t23 : AV) (h24 : H) => K.pickK t16 t23 (.bool false) fun t26 =>
K.letK (fun (t27 : AV) (h28 : H) => K.letK (fun (t30 : AV) (h31 : H) => K.letK (fun (t33 : AV) (h34 : H) => K.pickK t26 t33 (.bool false) fun t36 =>
K.letK (fun (t37 : AV) (h38 : H) => K.letK (fun (t40 : AV) (h41 : H) => K.letK (fun (t43 : AV) (h44 : H) => K.pickK t36 t43 (.bool false) fun t46 =>
K.letK (fun (t47 : AV) (h48 : H) => K.letK (fun (t50 : AV) (h51 : H) => K.letK (fun (t53 : AV) (h54 : H) => K.pickK t46 t53 (.bool false) fun t56 =>
K.unmarkK [] h54 fun h57 => .ok t56 h57) fun j55 =>
K.guK true t46 (K.leK (K.binV ctx .leq 3 true t50 (.int .i64 (.ofNat 512))) t50 (.int .i64 (.ofNat 512)) fun t58 =>
j55 t58 h51) (j55 (.tup []) h51)) fun j52 =>
K.guK true t46 (K.ldK ctx 3 t47 h48 fun t59 =>
j52 t59 h48) (j52 (.tup []) h48)) fun j49 =>
K.guK true t46 (K.fldK 2 t2 fun t60 =>
j49 t60 h44) (j49 (.tup []) h44)) fun j45 =>
K.guK true t36 (K.geK (K.binV ctx .geq 3 true t40 (.int .i64 (.ofNat 2))) t40 (.int .i64 (.ofNat 2)) fun t61 =>
j45 t61 h41) (j45 (.tup []) h41)) fun j42 =>
K.guK true t36 (K.ldK ctx 3 t37 h38 fun t62 =>
j42 t62 h38) (j42 (.tup []) h38)) fun j39 =>
K.guK true t36 (K.fldK 2 t2 fun t63 =>
j39 t63 h34) (j39 (.tup []) h34)) fun j35 =>
K.guK true t26 (K.leK (K.binV ctx .leq 3 true t30 (.int .i64 (.ofNat 64))) t30 (.int .i64 (.ofNat 64)) fun t64 =>
j35 t64 h31) (j35 (.tup []) h31)) fun j32 =>
K.guK true t26 (K.ldK ctx 3 t27 h28 fun t65 =>
j32 t65 h28) (j32 (.tup []) h28)) fun j29 =>
K.guK true t26 (K.fldK 1 t2 fun t66 =>
j29 t66 h24) (j29 (.tup []) h24)) fun j25 =>
K.guK true t16 (K.geK (K.binV ctx .geq 3 true t20 (.int .i64 (.ofNat 2))) t20 (.int .i64 (.ofNat 2)) fun t67 =>
j25 t67 h21) (j25 (.tup []) h21)) fun j22 =>
K.guK true t16 (K.ldK ctx 3 t17 h18 fun t68 =>
j22 t68 h18) (j22 (.tup []) h18)) fun j19 =>
K.guK true t16 (K.fldK 1 t2 fun t69 =>
j19 t69 h14) (j19 (.tup []) h14)) fun j15 =>
K.guK true t6 (K.leK (K.binV ctx .leq 3 true t10 (.int .i64 (.ofNat 4))) t10 (.int .i64 (.ofNat 4)) fun t70 =>
j15 t70 h11) (j15 (.tup []) h11)) fun j12 =>
K.guK true t6 (K.ldK ctx 3 t7 h8 fun t71 =>
j12 t71 h8) (j12 (.tup []) h8)) fun j9 =>
K.guK true t6 (K.fldK 0 t2 fun t72 =>
j9 t72 h3) (j9 (.tup []) h3))
noncomputable def r58 : K.KRun → List AV → H → K.KR := fun run args h => K.uncons args fun t0 l1 => K.unnil l1 (
K.boxK t0 h fun t2 h3 =>
K.ldsK ctx 63 3 t2 h3 fun t4 =>
K.callFK run 57 [t4] h3 fun t5 h6 =>
K.notK t5 fun t7 =>
K.iteV t7 (
K.unmarkK [] h6 fun h8 => .ok (.int .i64 (.ofNat 0)) h8) (
K.ldsK ctx 63 3 t2 h6 fun t9 =>
K.fldK 1 t2 fun t10 =>
K.ldK ctx 3 t10 h6 fun t11 =>
K.mulK (K.binV ctx .mul 3 true (.int .i64 (.ofNat 16)) t11) (.int .i64 (.ofNat 16)) t11 fun t12 =>
K.fldK 2 t2 fun t13 =>
K.ldK ctx 3 t13 h6 fun t14 =>
K.mulK (K.binV ctx .mul 3 true (.int .i64 (.ofNat 8)) t14) (.int .i64 (.ofNat 8)) t14 fun t15 =>
K.callFK run 78 [t9] h6 fun t16 h17 =>
K.ldK ctx 3 t13 h17 fun t18 =>
K.req (AV.same t14 t18) (
K.ldK ctx 3 t10 h17 fun t19 =>
K.req (AV.same t11 t19) (
K.addK (K.binV ctx .add 3 true t16 (.int .i64 (.ofNat 16))) t16 (.int .i64 (.ofNat 16)) fun t20 =>
K.addK (K.binV ctx .add 3 false t20 t12) t20 t12 fun t21 =>
K.addK (K.binV ctx .add 3 false t21 t15) t21 t15 fun t22 =>
K.unmarkK [] h17 fun h23 => .ok t22 h23))))
noncomputable def r59 : K.KRun → List AV → H → K.KR := fun run args h => K.uncons args fun t0 l1 => K.unnil l1 (
K.boxK t0 h fun t2 h3 =>
K.ldsK ctx 63 3 t2 h3 fun t4 =>
K.callFK run 57 [t4] h3 fun t5 h6 =>
K.notK t5 fun t7 =>
K.iteV t7 (
K.unmarkK [] h6 fun h8 => .ok (.int .i64 (.negSucc 0)) h8) (
K.ldsK ctx 63 3 t2 h6 fun t9 =>
K.callFK run 78 [t9] h6 fun t10 h11 =>
K.unmarkK [] h11 fun h12 => .ok t10 h12))
noncomputable def r60 : K.KRun → List AV → H → K.KR := fun run args h => K.uncons args fun t0 l1 => K.unnil l1 (
K.boxK t0 h fun t2 h3 =>
K.ldsK ctx 63 3 t2 h3 fun t4 =>
K.callFK run 57 [t4] h3 fun t5 h6 =>
K.notK t5 fun t7 =>
K.iteV t7 (
K.unmarkK [] h6 fun h8 => .ok (.int .i64 (.negSucc 0)) h8) (
K.ldsK ctx 63 3 t2 h6 fun t9 =>
K.callFK run 78 [t9] h6 fun t10 h11 =>
K.addK (K.binV ctx .add 3 true t10 (.int .i64 (.ofNat 8))) t10 (.int .i64 (.ofNat 8)) fun t12 =>
K.unmarkK [] h11 fun h13 => .ok t12 h13))
noncomputable def r61 : K.KRun → List AV → H → K.KR := fun run args h => K.uncons args fun t0 l1 => K.uncons l1 fun t2 l3 => K.unnil l3 (
K.boxK t0 h fun t4 h5 =>
K.ldsK ctx 63 3 t4 h5 fun t6 =>
K.callFK run 57 [t6] h5 fun t7 h8 =>
K.notK t7 fun t9 =>
K.letK (fun (t10 : AV) (h11 : H) => K.letK (fun (t13 : AV) (h14 : H) => K.pickK t9 (.bool true) t13 fun t16 =>
K.letK (fun (t17 : AV) (h18 : H) => K.letK (fun (t20 : AV) (h21 : H) => K.letK (fun (t23 : AV) (h24 : H) => K.letK (fun (t26 : AV) (h27 : H) => K.pickK t16 (.bool true) t26 fun t29 =>
K.iteV t29 (
K.unmarkK [] h27 fun h30 => .ok (.int .i64 (.negSucc 0)) h30) (
K.ldsK ctx 63 3 t4 h27 fun t31 =>
K.callFK run 78 [t31] h27 fun t32 h33 =>
K.addK (K.binV ctx .add 3 true t32 (.int .i64 (.ofNat 16))) t32 (.int .i64 (.ofNat 16)) fun t34 =>
K.mulK (K.binV ctx .mul 3 true (.int .i64 (.ofNat 16)) t2) (.int .i64 (.ofNat 16)) t2 fun t35 =>
K.addK (K.binV ctx .add 3 false t34 t35) t34 t35 fun t36 =>
K.unmarkK [] h33 fun h37 => .ok t36 h37)) fun j28 =>
K.guK false t16 (K.geK (K.binV ctx .geq 3 false t17 t23) t17 t23 fun t38 =>
j28 t38 h24) (j28 (.tup []) h24)) fun j25 =>
K.guK false t16 (K.ldK ctx 3 t20 h21 fun t39 =>
j25 t39 h21) (j25 (.tup []) h21)) fun j22 =>
K.guK false t16 (K.fldK 1 t4 fun t40 =>
j22 t40 h18) (j22 (.tup []) h18)) fun j19 =>
K.guK false t16 (j19 t2 h14) (j19 (.tup []) h14)) fun j15 =>
K.guK false t9 (K.ltK (K.binV ctx .lss 3 true t10 (.int .i64 (.ofNat 0))) t10 (.int .i64 (.ofNat 0)) fun t41 =>
j15 t41 h11) (j15 (.tup []) h11)) fun j12 =>
K.guK false t9 (j12 t2 h8) (j12 (.tup []) h8))
noncomputable def r62 : K.KRun → List AV → H → K.KR := fun run args h => K.uncons args fun t0 l1 => K.uncons l1 fun t2 l3 => K.uncons l3 fun t4 l5 => K.unnil l5 (
K.boxK t4 h fun t6 h7 =>
K.eqK (K.binV ctx .eql 30 true t0 .nilPtr) t0 .nilPtr fun t8 =>
K.iteV t8 (
K.unmarkK [] h7 fun h9 => .ok (.int .i64 (.ofNat 2)) h9) (
K.letK (fun (l10 : List AV) (m11 : List Nat) (h12 : H) => K.uncons l10 fun t14 l15 => K.uncons l15 fun t16 l17 => K.uncons l17 fun t18 l19 => K.uncons l19 fun t20 l21 => K.unnil l21 (
K.iteV t20 (
K.unmarkK m11 h12 fun h22 => .ok (.int .i64 (.ofNat 8)) h22) (
K.letK (fun (l23 : List AV) (m24 : List Nat) (h25 : H) => K.unnil l23 (
K.unmarkK m24 h25 fun h27 => .ok (.int .i64 (.ofNat 0)) h27)) fun j26 =>
K.nilK t14 fun t28 =>
K.fldK 0 t28 fun t29 =>
K.ldK ctx 83 t29 h12 fun t30 =>
K.mulK (K.binV ctx .mul 3 true t16 (.int .i64 (.ofNat 8))) t16 (.int .i64 (.ofNat 8)) fun t31 =>
K.addK (K.binV ctx .add 3 true t16 (.int .i64 (.ofNat 1))) t16 (.int .i64 (.ofNat 1)) fun t32 =>
K.mulK (K.binV ctx .mul 3 true t32 (.int .i64 (.ofNat 8))) t32 (.int .i64 (.ofNat 8)) fun t33 =>
K.slcK ctx 83 t30 (some t31) (some t33) none h12 fun t34 =>
K.callFK run 40 [t34] h12 fun t35 h36 =>
K.hNew h36 .marks fun r37 h38 => K.hNew h38 (.loop .ready none (K.mkT [5, 32] [t18, t35]) 4 r37) fun n39 h40 =>
K.rngK ctx run t35 n39 h40 (fun h42 => j26 [] (r37 :: m11) h42) (fun h43 => K.unmarkK (r37 :: m11) h43 fun h46 => .bad) fun i41 h44 => (Bool.rec (motive := fun _ => K.KR) (.bad) (j26 [] (r37 :: m11) h44) (Nat.beq i41 1))))) fun j13 =>
K.ltK (K.binV ctx .lss 3 true t2 (.int .i64 (.ofNat 0))) t2 (.int .i64 (.ofNat 0)) fun t47 =>
K.iteV t47 (
j13 [t0, t2, t6, t47] [] h7) (
K.nilK t0 fun t48 =>
K.fldK 0 t48 fun t49 =>
K.ldK ctx 83 t49 h7 fun t50 =>
K.lenVK t50 fun t51 =>
K.oK (K.binV ctx .quo 3 true t51 (.int .i64 (.ofNat 8))) fun t52 =>
K.geK (K.binV ctx .geq 3 false t2 t52) t2 t52 fun t53 =>
j13 [t0, t2, t6, t53] [] h7)))
noncomputable def r63 : K.KRun → List AV → H → K.KR := fun run args h => K.uncons args fun t0 l1 => K.unnil l1 (
K.nilK t0 fun t2 =>
K.fldK 1 t2 fun t3 =>
K.ldK ctx 37 t3 h fun t4 =>
K.callFK run 64 [t0, t4] h fun t5 h6 =>
K.unmarkK [] h6 fun h7 => .ok (.tup []) h7)
noncomputable def r64 : K.KRun → List AV → H → K.KR := fun run args h => K.uncons args fun t0 l1 => K.uncons l1 fun t2 l3 => K.unnil l3 (
K.bldSK ctx 76 [] fun t4 =>
K.nilK t0 fun t5 =>
K.fldK 0 t5 fun t6 =>
K.stK t6 t2 h fun h7 =>
K.nilK t0 fun t8 =>
K.fldK 2 t8 fun t9 =>
K.stsK 4 t9 t4 h7 fun h10 =>
K.unmarkK [] h10 fun h11 => .ok (.tup []) h11)
noncomputable def r65 : K.KRun → List AV → H → K.KR := fun run args h => K.uncons args fun t0 l1 => K.uncons l1 fun t2 l3 => K.uncons l3 fun t4 l5 => K.unnil l5 (
K.geK (K.binV ctx .geq 3 false t0 t2) t0 t2 fun t6 =>
K.letK (fun (t7 : AV) (h8 : H) => K.letK (fun (t10 : AV) (h11 : H) => K.letK (fun (t13 : AV) (h14 : H) => K.pickK t6 t13 (.bool false) fun t16 =>
K.unmarkK [] h14 fun h17 => .ok t16 h17) fun j15 =>
K.guK true t6 (K.leK (K.binV ctx .leq 3 false t7 t10) t7 t10 fun t18 =>
j15 t18 h11) (j15 (.tup []) h11)) fun j12 =>
K.guK true t6 (j12 t4 h8) (j12 (.tup []) h8)) fun j9 =>
K.guK true t6 (j9 t0 h) (j9 (.tup []) h))
noncomputable def r66 : K.KRun → List AV → H → K.KR := fun run args h => K.uncons args fun t0 l1 => K.uncons l1 fun t2 l3 => K.unnil l3 (
K.ldK ctx 27 t2 h fun t4 =>
K.lenVK t4 fun t5 =>
K.subK (K.binV ctx .sub 3 true t5 (.int .i64 (.ofNat 1))) t5 (.int .i64 (.ofNat 1)) fun t6 =>
K.loopV (nat_lit 1000000) (fun s10 l7 m8 h9 => K.uncons l7 fun t11 l12 => K.uncons l12 fun t13 l14 => K.uncons l14 fun t15 l16 => K.unnil l16 (
K.geK (K.binV ctx .geq 3 true t15 (.int .i64 (.ofNat 0))) t15 (.int .i64 (.ofNat 0)) fun t17 =>
K.iteV t17 (
K.ldK ctx 27 t13 h9 fun t18 =>
K.idxSK 1 t18 t15 fun t19 =>
K.ldK ctx 37 t19 h9 fun t20 =>
K.callVK run t11 [t15, t20] h9 fun t21 h22 =>
K.notK t21 fun t23 =>
K.iteV t23 (
K.unmarkK m8 h22 fun h24 => .ok (.tup []) h24) (
K.subK (K.binV ctx .sub 3 true t15 (.int .i64 (.ofNat 1))) t15 (.int .i64 (.ofNat 1)) fun t25 =>
s10 [t11, t13, t25] m8 h22)) (
K.unmarkK m8 h9 fun h26 => .ok (.tup []) h26))) [t0, t2, t6] [] h)
noncomputable def r67 : K.KRun → List AV → H → K.KR := fun run args h => K.uncons args fun t0 l1 => K.unnil l1 (
K.nilK t0 fun t2 =>
K.fldK 1 t2 fun t3 =>
K.ldK ctx 37 t3 h fun t4 =>
K.bldSK ctx 76 [(0, (.bool true)), (1, (.bool true)), (3, t4)] fun t5 =>
K.nilK t0 fun t6 =>
K.fldK 2 t6 fun t7 =>
K.stsK 4 t7 t5 h fun h8 =>
K.unmarkK [] h8 fun h9 => .ok (.tup []) h9)
noncomputable def r68 : K.KRun → List AV → H → K.KR := fun run args h => K.uncons args fun t0 l1 => K.uncons l1 fun t2 l3 => K.unnil l3 (
K.ldK ctx 83 t2 h fun t4 =>
K.lenVK t4 fun t5 =>
K.loopV (nat_lit 1000000) (fun s9 l6 m7 h8 => K.uncons l6 fun t10 l11 => K.uncons l11 fun t12 l13 => K.uncons l13 fun t14 l15 => K.uncons l15 fun t16 l17 => K.unnil l17 (
K.ltK (K.binV ctx .lss 3 false t16 t14) t16 t14 fun t18 =>
K.iteV t18 (
K.ldK ctx 83 t12 h8 fun t19 =>
K.idxSK 6 t19 t16 fun t20 =>
K.fldK 2 t20 fun t21 =>
K.fldK 0 t21 fun t22 =>
K.ldK ctx 4 t22 h8 fun t23 =>
K.letK (fun (t24 : AV) (h25 : H) => K.letK (fun (t27 : AV) (h28 : H) => K.letK (fun (t30 : AV) (h31 : H) => K.letK (fun (t33 : AV) (h34 : H) => K.letK (fun (t36 : AV) (h37 : H) => K.letK (fun (t39 : AV) (h40 : H) => K.pickK t23 t39 (.bool false) fun t42 =>
K.iteV t42 (
K.unmarkK m7 h40 fun h43 => .ok (.tup []) h43) (
K.addK (K.binV ctx .add 3 true t16 (.int .i64 (.ofNat 1))) t16 (.int .i64 (.ofNat 1)) fun t44 =>
s9 [t10, t12, t14, t44] m7 h40)) fun j41 =>
K.guK true t23 (K.notK t36 fun t45 =>
j41 t45 h37) (j41 (.tup []) h37)) fun j38 =>
K.guK true t23 (K.callVK run t24 [t33] h34 fun t46 h47 =>
j38 t46 h47) (j38 (.tup []) h34)) fun j35 =>
K.guK true t23 (K.idxSK 6 t27 t30 fun t48 =>
j35 t48 h31) (j35 (.tup []) h31)) fun j32 =>
K.guK true t23 (j32 t16 h28) (j32 (.tup []) h28)) fun j29 =>
K.guK true t23 (K.ldK ctx 83 t12 h25 fun t49 =>
j29 t49 h25) (j29 (.tup []) h25)) fun j26 =>
K.guK true t23 (j26 t10 h8) (j26 (.tup []) h8)) (
K.unmarkK m7 h8 fun h50 => .ok (.tup []) h50))) [t0, t2, t5, (.int .i64 (.ofNat 0))] [] h)
noncomputable def r69 : K.KRun → List AV → H → K.KR := fun run args h => K.uncons args fun t0 l1 => K.unnil l1 (
K.boxK t0 h fun t2 h3 =>
K.fldK 1 t2 fun t4 =>
K.ldK ctx 37 t4 h3 fun t5 =>
K.unmarkK [] h3 fun h6 => .ok t5 h6)
noncomputable def r70 : K.KRun → List AV → H → K.KR := fun run args h => K.uncons args fun t0 l1 => K.unnil l1 (
K.eqK (K.binV ctx .eql 46 true t0 .nilPtr) t0 .nilPtr fun t2 =>
K.iteV t2 (
K.unmarkK [] h fun h3 => .ok (.tup [(.bool false), (.int .i64 (.ofNat 2))]) h3) (
K.nilK t0 fun t4 =>
K.fldK 5 t4 fun t5 =>
K.ldK ctx 96 t5 h fun t6 =>
K.lenVK t6 fun t7 =>
K.gtK (K.binV ctx .gtr 3 true t7 (.int .i64 (.ofNat 0))) t7 (.int .i64 (.ofNat 0)) fun t8 =>
K.iteV t8 (
K.unmarkK [] h fun h9 => .ok (.tup [(.bool false), (.int .i64 (.ofNat 3))]) h9) (
K.letK (fun (l10 : List AV) (m11 : List Nat) (h12 : H) => K.uncons l10 fun t14 l15 => K.uncons l15 fun t16 l17 => K.unnil l17 (
K.nilK t14 fun t18 =>
K.fldK 1 t18 fun t19 =>
K.ldsK ctx 25 3 t19 h12 fun t20 =>
K.callFK run 79 [t20, t16] h12 fun t21 h22 =>
K.extK t21 0 fun t23 =>
K.extK t21 1 fun t24 =>
K.extK t21 2 fun t25 =>
K.letK (fun (l26 : List AV) (m27 : List Nat) (h28 : H) => K.unnil l26 (
K.unmarkK m27 h28 fun h30 => .ok (.tup [(.bool true), (.int .i64 (.ofNat 0))]) h30)) fun j29 =>
K.notK t25 fun t31 =>
K.iteV t31 (
K.unmarkK m11 h22 fun h32 => .ok (.tup [(.bool false), (.int .i64 (.ofNat 0))]) h32) (
K.iteV t24 (
K.callFK run 52 [t14, t23] h22 fun t33 h34 =>
j29 [] m11 h34) (
K.callFK run 50 [t14, (.int .u8 (.ofNat 6)), (.int .u64 (.ofNat 0))] h22 fun t35 h36 =>
j29 [] m11 h36)))) fun j13 =>
K.loopV (nat_lit 1000000) (fun s40 l37 m38 h39 => K.uncons l37 fun t41 l42 => K.uncons l42 fun t43 l44 => K.uncons l44 fun t45 l46 => K.unnil l46 (
K.ltK (K.binV ctx .lss 3 true t45 (.int .i64 (.ofNat 208))) t45 (.int .i64 (.ofNat 208)) fun t47 =>
K.iteV t47 (
K.nilK t41 fun t48 =>
K.fldK 0 t48 fun t49 =>
K.ldK ctx 30 t49 h39 fun t50 =>
K.nilK t41 fun t51 =>
K.fldK 4 t51 fun t52 =>
K.ldK ctx 3 t52 h39 fun t53 =>
K.addK (K.binV ctx .add 3 false t53 t45) t53 t45 fun t54 =>
K.callFK run 24 [t50, t54] h39 fun t55 h56 =>
K.extK t55 0 fun t57 =>
K.extK t55 1 fun t58 =>
K.neK (K.binV ctx .neq 32 true t58 (.int .i64 (.ofNat 0))) t58 (.int .i64 (.ofNat 0)) fun t59 =>
K.iteV t59 (
K.unmarkK m38 h56 fun h60 => .ok (.tup [(.bool false), t58]) h60) (
K.bslK ctx 37 1 1 [(0, t57)] h56 fun t61 h62 =>
K.appK ctx 37 1 t43 t61 h62 fun t63 h64 =>
K.addK (K.binV ctx .add 3 true t45 (.int .i64 (.ofNat 1))) t45 (.int .i64 (.ofNat 1)) fun t65 =>
s40 [t41, t63, t65] m38 h64)) (
j13 [t41, t43] m38 h39))) [t0, .nilSlice, (.int .i64 (.ofNat 0))] [] h)))
noncomputable def r71 : K.KRun → List AV → H → K.KR := fun run args h => K.uncons args fun t0 l1 => K.uncons l1 fun t2 l3 => K.unnil l3 (
K.boxK t0 h fun t4 h5 =>
K.ldsK ctx 25 3 t4 h5 fun t6 =>
K.callFK run 29 [t6] h5 fun t7 h8 =>
K.notK t7 fun t9 =>
K.letK (fun (t10 : AV) (h11 : H) => K.letK (fun (t13 : AV) (h14 : H) => K.pickK t9 (.bool true) t13 fun t16 =>
K.iteV t16 (
K.unmarkK [] h14 fun h17 => .ok (.tup [(.int .u8 (.ofNat 0)), (.int .i64 (.ofNat 0)), (.int .i64 (.ofNat 0)), (.int .i64 (.ofNat 0))]) h17) (
K.letK (fun (l18 : List AV) (m19 : List Nat) (h20 : H) => K.unnil l18 (
K.unmarkK m19 h20 fun h22 => .ok (.tup [(.int .u8 (.ofNat 0)), (.int .i64 (.ofNat 0)), (.int .i64 (.ofNat 0)), (.int .i64 (.ofNat 0))]) h22)) fun j21 =>
K.ldsK ctx 25 3 t4 h14 fun t23 =>
K.callFK run 45 [t23] h14 fun t24 h25 =>
K.loopV (nat_lit 1000000) (fun s29 l26 m27 h28 => K.uncons l26 fun t30 l31 => K.uncons l31 fun t32 l33 => K.uncons l33 fun t34 l35 => K.unnil l35 (
K.ltK (K.binV ctx .lss 3 true t34 (.int .i64 (.ofNat 7))) t34 (.int .i64 (.ofNat 7)) fun t36 =>
K.iteV t36 (
K.idxK ctx 93 3 7 t32 t34 fun t37 =>
K.allocK (K.zN ctx 93) (K.zT ctx 93) h28 fun t38 h39 =>
K.stsK 3 t38 t37 h39 fun h40 =>
K.fldK 1 t38 fun t41 =>
K.ldK ctx 3 t41 h40 fun t42 =>
K.fldK 2 t38 fun t43 =>
K.ldK ctx 3 t43 h40 fun t44 =>
K.mulK (K.binV ctx .mul 3 false t42 t44) t42 t44 fun t45 =>
K.geK (K.binV ctx .geq 3 false t30 t45) t30 t45 fun t46 =>
K.iteV t46 (
K.subK (K.binV ctx .sub 3 false t30 t45) t30 t45 fun t47 =>
K.addK (K.binV ctx .add 3 true t34 (.int .i64 (.ofNat 1))) t34 (.int .i64 (.ofNat 1)) fun t48 =>
s29 [t47, t32, t48] m27 h40) (
K.fldK 1 t38 fun t49 =>
K.ldK ctx 3 t49 h40 fun t50 =>
K.oK (K.binV ctx .quo 3 false t30 t50) fun t51 =>
K.fldK 1 t38 fun t52 =>
K.ldK ctx 3 t52 h40 fun t53 =>
K.oK (K.binV ctx .rem 3 false t30 t53) fun t54 =>
K.fldK 0 t38 fun t55 =>
K.ldK ctx 91 t55 h40 fun t56 =>
K.eqK (K.binV ctx .eql 91 true t56 (.int .u8 (.ofNat 2))) t56 (.int .u8 (.ofNat 2)) fun t57 =>
K.iteV t57 (
K.callFK run 80 [t51, t54] h40 fun t58 h59 =>
K.extK t58 0 fun t60 =>
K.extK t58 1 fun t61 =>
K.extK t58 2 fun t62 =>
K.extK t58 3 fun t63 =>
K.unmarkK m27 h59 fun h64 => .ok (.tup [t60, t61, t62, t63]) h64) (
K.fldK 0 t38 fun t65 =>
K.ldK ctx 91 t65 h40 fun t66 =>
K.unmarkK m27 h40 fun h67 => .ok (.tup [t66, t51, (.int .i64 (.ofNat 0)), t54]) h67))) (
j21 [] m27 h28))) [t2, t24, (.int .i64 (.ofNat 0))] [] h25)) fun j15 =>
K.guK false t9 (K.ltK (K.binV ctx .lss 3 true t10 (.int .i64 (.ofNat 0))) t10 (.int .i64 (.ofNat 0)) fun t68 =>
j15 t68 h11) (j15 (.tup []) h11)) fun j12 =>
K.guK false t9 (j12 t2 h8) (j12 (.tup []) h8))
noncomputable def r72 : K.KRun → List AV → H → K.KR := fun run args h => K.uncons args fun t0 l1 => K.unnil l1 (
K.letK (fun (l2 : List AV) (m3 : List Nat) (h4 : H) => K.uncons l2 fun t6 l7 => K.unnil l7 (
K.iteV t6 (
K.unmarkK m3 h4 fun h8 => .ok (.bool false) h8) (
K.unmarkK m3 h4 fun h9 => .ok (.bool true) h9))) fun j5 =>
K.eqK (K.binV ctx .eql 91 true t0 (.int .u8 (.ofNat 0))) t0 (.int .u8 (.ofNat 0)) fun t10 =>
K.iteV t10 (
j5 [t10] [] h) (
K.eqK (K.binV ctx .eql 91 true t0 (.int .u8 (.ofNat 1))) t0 (.int .u8 (.ofNat 1)) fun t11 =>
K.iteV t11 (
j5 [t11] [] h) (
K.eqK (K.binV ctx .eql 91 true t0 (.int .u8 (.ofNat 5))) t0 (.int .u8 (.ofNat 5)) fun t12 =>
j5 [t12] [] h)))
noncomputable def r73 : K.KRun → List AV → H → K.KR := fun run args h => K.uncons args fun t0 l1 => K.uncons l1 fun t2 l3 => K.unnil l3 (
K.ldK ctx 27 t2 h fun t4 =>
K.appK ctx 37 1 t4 t0 h fun t5 h6 =>
K.stK t2 t5 h6 fun h7 =>
K.unmarkK [] h7 fun h8 => .ok (.tup []) h8)
noncomputable def r74 : K.KRun → List AV → H → K.KR := fun run args h => K.uncons args fun t0 l1 => K.unnil l1 (
K.callFK run 81 [] h fun t2 h3 =>
K.allocK (K.zN ctx 117) (K.zT ctx 117) h3 fun t4 h5 =>
K.stK t4 (.func (.func 82) [t2] []) h5 fun h6 =>
K.letK (fun (l7 : List AV) (m8 : List Nat) (h9 : H) => K.uncons l7 fun t11 l12 => K.unnil l12 (
K.callFK run 84 [t11] h9 fun t13 h14 =>
K.unmarkK m8 h14 fun h15 => .ok t13 h15)) fun j10 =>
K.callFK run 83 [t0] h6 fun t16 h17 =>
K.hNew h17 .marks fun r18 h19 => K.hNew h19 (.loop .ready none (K.mkT [3, 4, 10] [t2, t4, t16]) 5 r18) fun n20 h21 =>
K.rngK ctx run t16 n20 h21 (fun h23 => j10 [t2] (r18 :: []) h23) (fun h24 => K.unmarkK (r18 :: []) h24 fun h27 => .bad) fun i22 h25 => (Bool.rec (motive := fun _ => K.KR) (.bad) (j10 [t2] (r18 :: []) h25) (Nat.beq i22 0)))
noncomputable def r75 : K.KRun → List AV → H → K.KR := fun run args h => K.uncons args fun t0 l1 => K.uncons l1 fun t2 l3 => K.uncons l3 fun t4 l5 => K.unnil l5 (
K.boxK t0 h fun t6 h7 =>
K.lenVK t4 fun t8 =>
K.loopV (nat_lit 1000000) (fun s12 l9 m10 h11 => K.uncons l9 fun t13 l14 => K.uncons l14 fun t15 l16 => K.uncons l16 fun t17 l18 => K.uncons l18 fun t19 l20 => K.uncons l20 fun t21 l22 => K.unnil l22 (
K.ltK (K.binV ctx .lss 3 false t21 t19) t21 t19 fun t23 =>
K.iteV t23 (
K.idxSK 2 t17 t21 fun t24 =>
K.ldsK ctx 52 2 t24 h11 fun t25 =>
K.allocK (K.zN ctx 52) (K.zT ctx 52) h11 fun t26 h27 =>
K.stsK 2 t26 t25 h27 fun h28 =>
K.ldK ctx 46 t15 h28 fun t29 =>
K.callFK run 85 [t29, t13, (.func (.func 86) [] [t15, t26])] h28 fun t30 h31 =>
K.addK (K.binV ctx .add 3 true t21 (.int .i64 (.ofNat 1))) t21 (.int .i64 (.ofNat 1)) fun t32 =>
s12 [t13, t15, t17, t19, t32] m10 h31) (
K.unmarkK m10 h11 fun h33 => .ok (.tup []) h33))) [t2, t6, t4, t8, (.int .i64 (.ofNat 0))] [] h7)
noncomputable def r76 : K.KRun → List AV → H → K.KR := fun run args h => K.uncons args fun t0 l1 => K.uncons l1 fun t2 l3 => K.uncons l3 fun t4 l5 => K.unnil l5 (
K.boxK t0 h fun t6 h7 =>
K.letK (fun (l8 : List AV) (m9 : List Nat) (h10 : H) => K.uncons l8 fun t12 l13 => K.uncons l13 fun t14 l15 => K.uncons l15 fun t16 l17 => K.unnil l17 (
K.callFK run 87 [t16] h10 fun t18 h19 =>
K.letK (fun (l20 : List AV) (m21 : List Nat) (h22 : H) => K.uncons l20 fun t24 l25 => K.uncons l25 fun t26 l27 => K.unnil l27 (
K.ldK ctx 46 t26 h22 fun t28 =>
K.ldK ctx 46 t26 h22 fun t29 =>
K.nilK t29 fun t30 =>
K.fldK 0 t30 fun t31 =>
K.ldK ctx 30 t31 h22 fun t32 =>
K.callFK run 85 [t28, t24, (.func (.func 34) [t32] [])] h22 fun t33 h34 =>
K.unmarkK m21 h34 fun h35 => .ok (.tup []) h35)) fun j23 =>
K.callFK run 88 [t16] h19 fun t36 h37 =>
K.lenVK t36 fun t38 =>
K.loopV (nat_lit 1000000) (fun s42 l39 m40 h41 => K.uncons l39 fun t43 l44 => K.uncons l44 fun t45 l46 => K.uncons l46 fun t47 l48 => K.uncons l48 fun t49 l50 => K.uncons l50 fun t51 l52 => K.unnil l52 (
K.ltK (K.binV ctx .lss 3 false t51 t49) t51 t49 fun t53 =>
K.iteV t53 (
K.idxSK 1 t47 t51 fun t54 =>
K.ldK ctx 3 t54 h41 fun t55 =>
K.allocK (K.zN ctx 3) (K.zT ctx 3) h41 fun t56 h57 =>
K.stK t56 t55 h57 fun h58 =>
K.ldK ctx 46 t45 h58 fun t59 =>
K.callFK run 85 [t59, t43, (.func (.func 89) [] [t45, t56])] h58 fun t60 h61 =>
K.addK (K.binV ctx .add 3 true t51 (.int .i64 (.ofNat 1))) t51 (.int .i64 (.ofNat 1)) fun t62 =>
s42 [t43, t45, t47, t49, t62] m40 h61) (
j23 [t43, t45] m40 h41))) [t12, t14, t36, t38, (.int .i64 (.ofNat 0))] m9 h37)) fun j11 =>
K.lenVK t4 fun t63 =>
K.loopV (nat_lit 1000000) (fun s67 l64 m65 h66 => K.uncons l64 fun t68 l69 => K.uncons l69 fun t70 l71 => K.uncons l71 fun t72 l73 => K.uncons l73 fun t74 l75 => K.uncons l75 fun t76 l77 => K.uncons l77 fun t78 l79 => K.unnil l79 (
K.ltK (K.binV ctx .lss 3 false t78 t76) t78 t76 fun t80 =>
K.iteV t80 (
K.idxSK 2 t74 t78 fun t81 =>
K.ldsK ctx 52 2 t81 h66 fun t82 =>
K.allocK (K.zN ctx 52) (K.zT ctx 52) h66 fun t83 h84 =>
K.stsK 2 t83 t82 h84 fun h85 =>
K.fldK 0 t83 fun t86 =>
K.ldK ctx 3 t86 h85 fun t87 =>
K.oK (K.binV ctx .quo 3 true t87 (.int .i64 (.ofNat 8))) fun t88 =>
K.bslK ctx 3 1 1 [(0, t88)] h85 fun t89 h90 =>
K.appK ctx 3 1 t72 t89 h90 fun t91 h92 =>
K.addK (K.binV ctx .add 3 true t78 (.int .i64 (.ofNat 1))) t78 (.int .i64 (.ofNat 1)) fun t93 =>
s67 [t68, t70, t91, t74, t76, t93] m65 h92) (
j11 [t68, t70, t72] m65 h66))) [t2, t6, .nilSlice, t4, t63, (.int .i64 (.ofNat 0))] [] h7)
noncomputable def r77 : K.KRun → List AV → H → K.KR := fun run args h => K.uncons args fun t0 l1 => K.unnil l1 (
K.lenVK t0 fun t2 =>
K.eqK (K.binV ctx .eql 3 true t2 (.int .i64 (.ofNat 0))) t2 (.int .i64 (.ofNat 0)) fun t3 =>
K.letK (fun (t4 : AV) (h5 : H) => K.letK (fun (t7 : AV) (h8 : H) => K.letK (fun (t10 : AV) (h11 : H) => K.letK (fun (t13 : AV) (h14 : H) => K.pickK t3 (.bool true) t13 fun t16 =>
K.iteV t16 (
K.unmarkK [] h14 fun h17 => .ok (.tup [.nilSlice, (.int .u64 (.ofNat 0)), (.bool false)]) h17) (
K.idxSK 1 t0 (.int .i64 (.ofNat 0)) fun t18 =>
K.ldK ctx 37 t18 h14 fun t19 =>
K.rK (convA ctx 37 3 t19 h14) fun t20 h21 =>
K.mulK (K.binV ctx .mul 3 true (.int .i64 (.ofNat 2)) t20) (.int .i64 (.ofNat 2)) t20 fun t22 =>
K.addK (K.binV ctx .add 3 true (.int .i64 (.ofNat 1)) t22) (.int .i64 (.ofNat 1)) t22 fun t23 =>
K.lenVK t0 fun t24 =>
K.leK (K.binV ctx .leq 3 false t24 t23) t24 t23 fun t25 =>
K.iteV t25 (
K.unmarkK [] h21 fun h26 => .ok (.tup [.nilSlice, (.int .u64 (.ofNat 0)), (.bool false)]) h26) (
K.slcK ctx 27 t0 none (some t23) none h21 fun t27 =>
K.idxSK 1 t0 t23 fun t28 =>
K.ldK ctx 37 t28 h21 fun t29 =>
K.unmarkK [] h21 fun h30 => .ok (.tup [t27, t29, (.bool true)]) h30))) fun j15 =>
K.guK false t3 (K.gtK (K.binV ctx .gtr 37 true t10 (.int .u64 (.ofNat 96))) t10 (.int .u64 (.ofNat 96)) fun t31 =>
j15 t31 h11) (j15 (.tup []) h11)) fun j12 =>
K.guK false t3 (K.ldK ctx 37 t7 h8 fun t32 =>
j12 t32 h8) (j12 (.tup []) h8)) fun j9 =>
K.guK false t3 (K.idxSK 1 t4 (.int .i64 (.ofNat 0)) fun t33 =>
j9 t33 h5) (j9 (.tup []) h5)) fun j6 =>
K.guK false t3 (j6 t0 h) (j6 (.tup []) h))
noncomputable def r78 : K.KRun → List AV → H → K.KR := fun run args h => K.uncons args fun t0 l1 => K.unnil l1 (
K.boxK t0 h fun t2 h3 =>
K.fldK 0 t2 fun t4 =>
K.ldK ctx 3 t4 h3 fun t5 =>
K.mulK (K.binV ctx .mul 3 true (.int .i64 (.ofNat 208)) t5) (.int .i64 (.ofNat 208)) t5 fun t6 =>
K.callFK run 90 [] h3 fun t7 h8 =>
K.ldK ctx 3 t4 h8 fun t9 =>
K.req (AV.same t5 t9) (
K.addK (K.binV ctx .add 3 false t7 t6) t7 t6 fun t10 =>
K.unmarkK [] h8 fun h11 => .ok t10 h11))
noncomputable def r79 : K.KRun → List AV → H → K.KR := fun run args h => K.uncons args fun t0 l1 => K.uncons l1 fun t2 l3 => K.unnil l3 (
K.boxK t0 h fun t4 h5 =>
K.idxSK 1 t2 (.int .i64 (.ofNat 0)) fun t6 =>
K.ldK ctx 37 t6 h5 fun t7 =>
K.slcK ctx 27 t2 (some (.int .i64 (.ofNat 8))) none none h5 fun t8 =>
K.eqK (K.binV ctx .eql 37 true t7 (.int .u64 (.ofNat 0))) t7 (.int .u64 (.ofNat 0)) fun t9 =>
K.iteV t9 (
K.unmarkK [] h5 fun h10 => .ok (.tup [.nilSlice, (.bool false), (.bool false)]) h10) (
K.ldsK ctx 25 3 t4 h5 fun t11 =>
K.callFK run 91 [t11, t8] h5 fun t12 h13 =>
K.extK t12 0 fun t14 =>
K.extK t12 1 fun t15 =>
K.eqK (K.binV ctx .eql 32 true t15 (.int .i64 (.ofNat 0))) t15 (.int .i64 (.ofNat 0)) fun t16 =>
K.letK (fun (t17 : AV) (h18 : H) => K.letK (fun (t20 : AV) (h21 : H) => K.letK (fun (t23 : AV) (h24 : H) => K.letK (fun (t26 : AV) (h27 : H) => K.pickK t16 t26 (.bool false) fun t29 =>
K.unmarkK [] h27 fun h30 => .ok (.tup [t14, t29, (.bool true)]) h30) fun j28 =>
K.guK true t16 (K.eqK (K.binV ctx .eql 37 false t17 t23) t17 t23 fun t31 =>
j28 t31 h24) (j28 (.tup []) h24)) fun j25 =>
K.guK true t16 (K.callFK run 51 [t20] h21 fun t32 h33 =>
j25 t32 h33) (j25 (.tup []) h21)) fun j22 =>
K.guK true t16 (j22 t8 h18) (j22 (.tup []) h18)) fun j19 =>
K.guK true t16 (j19 t7 h13) (j19 (.tup []) h13)))
noncomputable def r81 : K.KRun → List AV → H → K.KR := fun run args h => K.unnil args (
K.bldSK ctx 149 [(0, (.int .u64 (.ofNat 14695981039346656037)))] fun t0 =>
K.boxK t0 h fun t1 h2 =>
K.unmarkK [] h2 fun h3 => .ok t1 h3)
noncomputable def r82 : K.KRun → List AV → H → K.KR := fun run args h => K.uncons args fun t0 l1 => K.uncons l1 fun t2 l3 => K.unnil l3 (
K.neK (K.binV ctx .neq 136 true t0 .nilPtr) t0 .nilPtr fun t4 =>
K.iteV t4 (
K.nilK t0 fun t5 =>
K.fldK 0 t5 fun t6 =>
K.ldK ctx 37 t6 h fun t7 =>
K.oK (K.binV ctx .xor 37 false t7 t2) fun t8 =>
K.mulK (K.binV ctx .mul 37 true t8 (.int .u64 (.ofNat 1099511628211))) t8 (.int .u64 (.ofNat 1099511628211)) fun t9 =>
K.nilK t0 fun t10 =>
K.fldK 0 t10 fun t11 =>
K.stK t11 t9 h fun h12 =>
K.unmarkK [] h12 fun h13 => .ok (.tup []) h13) (
K.unmarkK [] h fun h14 => .ok (.tup []) h14))
noncomputable def r83 : K.KRun → List AV → H → K.KR := fun run args h => K.uncons args fun t0 l1 => K.unnil l1 (
K.boxK t0 h fun t2 h3 =>
K.unmarkK [] h3 fun h4 => .ok (.func (.func 92) [] [t2]) h4)
noncomputable def r84 : K.KRun → List AV → H → K.KR := fun run args h => K.uncons args fun t0 l1 => K.unnil l1 (
K.eqK (K.binV ctx .eql 136 true t0 .nilPtr) t0 .nilPtr fun t2 =>
K.iteV t2 (
K.unmarkK [] h fun h3 => .ok (.int .u64 (.ofNat 0)) h3) (
K.nilK t0 fun t4 =>
K.fldK 0 t4 fun t5 =>
K.ldK ctx 37 t5 h fun t6 =>
K.unmarkK [] h fun h7 => .ok t6 h7))
noncomputable def r85 : K.KRun → List AV → H → K.KR := fun run args h => K.uncons args fun t0 l1 => K.uncons l1 fun t2 l3 => K.uncons l3 fun t4 l5 => K.unnil l5 (
K.nilK t0 fun t6 =>
K.fldK 5 t6 fun t7 =>
K.ldK ctx 96 t7 h fun t8 =>
K.bldSK ctx 109 [(0, t2), (1, t4)] fun t9 =>
K.bslK ctx 109 2 1 [(0, t9)] h fun t10 h11 =>
K.appK ctx 109 2 t8 t10 h11 fun t12 h13 =>
K.nilK t0 fun t14 =>
K.fldK 5 t14 fun t15 =>
K.stK t15 t12 h13 fun h16 =>
K.unmarkK [] h16 fun h17 => .ok (.tup []) h17)
noncomputable def r86 : K.KRun → List AV → H → K.KR := fun run args h => K.uncons args fun t0 l1 => K.uncons l1 fun t2 l3 => K.unnil l3 (
K.ldK ctx 46 t0 h fun t4 =>
K.nilK t4 fun t5 =>
K.fldK 0 t5 fun t6 =>
K.ldK ctx 30 t6 h fun t7 =>
K.fldK 0 t2 fun t8 =>
K.ldK ctx 3 t8 h fun t9 =>
K.fldK 1 t2 fun t10 =>
K.ldK ctx 37 t10 h fun t11 =>
K.callFK run 27 [t7, t9, t11] h fun t12 h13 =>
K.unmarkK [] h13 fun h14 => .ok t12 h14)
noncomputable def r87 : K.KRun → List AV → H → K.KR := fun run args h => K.uncons args fun t0 l1 => K.unnil l1 (
K.lenVK t0 fun t2 =>
K.rK (convA ctx 3 132 t2 h) fun t3 h4 =>
K.callFK run 94 [t3] h4 fun t5 h6 =>
K.callFK run 93 [t0, (.int .i64 (.ofNat 0)), t2, t5] h6 fun t7 h8 =>
K.unmarkK [] h8 fun h9 => .ok (.tup []) h9)
end YtbigljebnajniabGreatMfM
