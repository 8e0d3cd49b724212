/- PRINTED BY Gen2.lean (own): functions as plain texts, part 2. -/
import Derived.Test.YthlpjeoddenioaaGreatDoorSfCtx
namespace YthlpjeoddenioaaGreatDoorSfM
open Go Am
set_option maxRecDepth 100000
noncomputable def r63 : K.KRun → List AV → H → K.KR := fun run args h => K.uncons args fun t0 l1 => K.uncons l1 fun t2 l3 => K.uncons l3 fun t4 l5 => K.unnil l5 (
K.allocK (K.zN ctx 57) (K.zT ctx 57) h fun t6 h7 =>
K.callFK run 79 [t0, t2, t4] h7 fun t8 h9 =>
K.extK t8 0 fun t10 =>
K.extK t8 1 fun t11 =>
K.neK (K.binV ctx .neq 35 true t11 (.int .i64 (.ofNat 0))) t11 (.int .i64 (.ofNat 0)) fun t12 =>
K.letK (fun (t13 : AV) (h14 : H) => K.letK (fun (t16 : AV) (h17 : H) => K.letK (fun (t19 : AV) (h20 : H) => K.letK (fun (t22 : AV) (h23 : H) => K.pickK t12 (.bool true) t22 fun t25 =>
K.iteV t25 (
K.bldSK ctx 57 [] fun t26 =>
K.stsK 4 t6 t26 h23 fun h27 =>
K.unmarkK [] h27 fun h28 => K.asPtr t6 fun n29 n30 => K.loads h28 n29 n30 4 fun t31 => .ok (.tup [(.int .u64 (.ofNat 0)), (.agg t31), t11]) h28) (
K.addK (K.binV ctx .add 3 true t10 (.int .i64 (.ofNat 1))) t10 (.int .i64 (.ofNat 1)) fun t32 =>
K.callFK run 80 [t0, t32] h23 fun t33 h34 =>
K.oK (K.binV ctx .rem 23 true t33 (.int .u64 (.ofNat 256))) fun t35 =>
K.addK (K.binV ctx .add 3 true t10 (.int .i64 (.ofNat 1))) t10 (.int .i64 (.ofNat 1)) fun t36 =>
K.callFK run 80 [t0, t36] h34 fun t37 h38 =>
K.oK (K.binV ctx .quo 23 true t37 (.int .u64 (.ofNat 256))) fun t39 =>
K.gtK (K.binV ctx .gtr 23 true t35 (.int .u64 (.ofNat 24))) t35 (.int .u64 (.ofNat 24)) fun t40 =>
K.letK (fun (t41 : AV) (h42 : H) => K.letK (fun (t44 : AV) (h45 : H) => K.pickK t40 (.bool true) t44 fun t47 =>
K.iteV t47 (
K.bldSK ctx 57 [] fun t48 =>
K.stsK 4 t6 t48 h45 fun h49 =>
K.unmarkK [] h49 fun h50 => K.asPtr t6 fun n51 n52 => K.loads h50 n51 n52 4 fun t53 => .ok (.tup [(.int .u64 (.ofNat 0)), (.agg t53), (.int .i64 (.ofNat 4))]) h50) (
K.letK (fun (l54 : List AV) (m55 : List Nat) (h56 : H) => K.uncons l54 fun t58 l59 => K.uncons l59 fun t60 l61 => K.uncons l61 fun t62 l63 => K.uncons l63 fun t64 l65 => K.uncons l65 fun t66 l67 => K.uncons l67 fun t68 l69 => K.unnil l69 (
K.rK (convA ctx 23 3 t66 h56) fun t70 h71 =>
K.callFK run 81 [t68, t70] h71 fun t72 h73 =>
K.extK t72 0 fun t74 =>
K.extK t72 1 fun t75 =>
K.neK (K.binV ctx .neq 35 true t75 (.int .i64 (.ofNat 0))) t75 (.int .i64 (.ofNat 0)) fun t76 =>
K.iteV t76 (
K.bldSK ctx 57 [] fun t77 =>
K.stsK 4 t60 t77 h73 fun h78 =>
K.unmarkK m55 h78 fun h79 => K.asPtr t60 fun n80 n81 => K.loads h79 n80 n81 4 fun t82 => .ok (.tup [(.int .u64 (.ofNat 0)), (.agg t82), t75]) h79) (
K.callFK run 80 [t58, t62] h73 fun t83 h84 =>
K.rK (convA ctx 23 35 t64 h84) fun t85 h86 =>
K.addK (K.binV ctx .add 3 true t62 (.int .i64 (.ofNat 2))) t62 (.int .i64 (.ofNat 2)) fun t87 =>
K.callFK run 80 [t58, t87] h86 fun t88 h89 =>
K.addK (K.binV ctx .add 3 true t62 (.int .i64 (.ofNat 3))) t62 (.int .i64 (.ofNat 3)) fun t90 =>
K.callFK run 80 [t58, t90] h89 fun t91 h92 =>
K.bldSK ctx 57 [(0, t85), (1, t88), (2, t91), (3, t74)] fun t93 =>
K.stsK 4 t60 t93 h92 fun h94 =>
K.unmarkK m55 h94 fun h95 => K.asPtr t60 fun n96 n97 => K.loads h95 n96 n97 4 fun t98 => .ok (.tup [t83, (.agg t98), (.int .i64 (.ofNat 0))]) h95))) fun j57 =>
K.loopV (nat_lit 1000000) (fun s102 l99 m100 h101 => K.uncons l99 fun t103 l104 => K.uncons l104 fun t105 l106 => K.uncons l106 fun t107 l108 => K.uncons l108 fun t109 l110 => K.uncons l110 fun t111 l112 => K.uncons l112 fun t113 l114 => K.uncons l114 fun t115 l116 => K.unnil l116 (
K.ltK (K.binV ctx .lss 3 true t115 (.int .i64 (.ofNat 12))) t115 (.int .i64 (.ofNat 12)) fun t117 =>
K.iteV t117 (
K.addK (K.binV ctx .add 3 false t107 t115) t107 t115 fun t118 =>
K.callFK run 80 [t103, t118] h101 fun t119 h120 =>
K.bslK ctx 23 1 1 [(0, t119)] h120 fun t121 h122 =>
K.appK ctx 23 1 t113 t121 h122 fun t123 h124 =>
K.addK (K.binV ctx .add 3 true t115 (.int .i64 (.ofNat 1))) t115 (.int .i64 (.ofNat 1)) fun t125 =>
s102 [t103, t105, t107, t109, t111, t123, t125] m100 h124) (
j57 [t103, t105, t107, t109, t111, t113] m100 h101))) [t0, t6, t10, t35, t39, .nilSlice, (.int .i64 (.ofNat 4))] [] h45)) fun j46 =>
K.guK false t40 (K.gtK (K.binV ctx .gtr 23 true t41 (.int .u64 (.ofNat 64))) t41 (.int .u64 (.ofNat 64)) fun t126 =>
j46 t126 h42) (j46 (.tup []) h42)) fun j43 =>
K.guK false t40 (j43 t39 h38) (j43 (.tup []) h38))) fun j24 =>
K.guK false t12 (K.eqK (K.binV ctx .eql 23 true t19 (.int .u64 (.ofNat 0))) t19 (.int .u64 (.ofNat 0)) fun t127 =>
j24 t127 h20) (j24 (.tup []) h20)) fun j21 =>
K.guK false t12 (K.callFK run 80 [t13, t16] h17 fun t128 h129 =>
j21 t128 h129) (j21 (.tup []) h17)) fun j18 =>
K.guK false t12 (j18 t10 h14) (j18 (.tup []) h14)) fun j15 =>
K.guK false t12 (j15 t0 h9) (j15 (.tup []) h9))
noncomputable def r64 : K.KRun → List AV → H → K.KR := fun run args h => K.uncons args fun t0 l1 => K.unnil l1 (
K.eqK (K.binV ctx .eql 28 true t0 .nilSlice) t0 .nilSlice fun t2 =>
K.iteV t2 (
K.unmarkK [] h fun h3 => .ok .nilSlice h3) (
K.bslK ctx 23 1 0 [] h fun t4 h5 =>
K.appK ctx 23 1 t4 t0 h5 fun t6 h7 =>
K.unmarkK [] h7 fun h8 => .ok t6 h8))
noncomputable def r65 : K.KRun → List AV → H → K.KR := fun run args h => K.uncons args fun t0 l1 => K.unnil l1 (
K.eqK (K.binV ctx .eql 38 true t0 .nilPtr) t0 .nilPtr fun t2 =>
K.iteV t2 (
K.unmarkK [] h fun h3 => .ok (.int .i64 (.ofNat 0)) h3) (
K.nilK t0 fun t4 =>
K.fldK 0 t4 fun t5 =>
K.ldK ctx 125 t5 h fun t6 =>
K.lenVK t6 fun t7 =>
K.unmarkK [] h fun h8 => .ok t7 h8))
noncomputable def r66 : K.KRun → List AV → H → K.KR := fun run args h => K.uncons args fun t0 l1 => K.unnil l1 (
K.boxK t0 h fun t2 h3 =>
K.unmarkK [] h3 fun h4 => .ok (.func (.func 82) [] [t2]) h4)
noncomputable def r67 : K.KRun → List AV → H → K.KR := fun run args h => K.unnil args (
K.unmarkK [] h fun h0 => .ok (.int .i64 (.ofNat 264)) h0)
noncomputable def r68 : K.KRun → List AV → H → K.KR := fun run args h => K.uncons args fun t0 l1 => K.unnil l1 (
K.nilK t0 fun t2 =>
K.fldK 0 t2 fun t3 =>
K.ldK ctx 38 t3 h fun t4 =>
K.callFK run 23 [t4] h fun t5 h6 =>
K.letK (fun (l7 : List AV) (m8 : List Nat) (h9 : H) => K.uncons l7 fun t11 l12 => K.uncons l12 fun t13 l14 => K.uncons l14 fun t15 l16 => K.unnil l16 (
K.letK (fun (l17 : List AV) (m18 : List Nat) (h19 : H) => K.uncons l17 fun t21 l22 => K.uncons l22 fun t23 l24 => K.unnil l24 (
K.nilK t21 fun t25 =>
K.fldK 4 t25 fun t26 =>
K.ldsK ctx 54 12 t26 h19 fun t27 =>
K.callFK run 86 [t23, t27] h19 fun t28 h29 =>
K.extK t28 0 fun t30 =>
K.extK t28 1 fun t31 =>
K.allocK (K.zN ctx 61) (K.zT ctx 61) h29 fun t32 h33 =>
K.stsK 7 t32 t30 h33 fun h34 =>
K.letK (fun (l35 : List AV) (m36 : List Nat) (h37 : H) => K.uncons l35 fun t39 l40 => K.uncons l40 fun t41 l42 => K.unnil l42 (
K.ldsK ctx 61 7 t41 h37 fun t43 =>
K.nilK t39 fun t44 =>
K.fldK 17 t44 fun t45 =>
K.stsK 7 t45 t43 h37 fun h46 =>
K.nilK t39 fun t47 =>
K.fldK 16 t47 fun t48 =>
K.stK t48 (.func (.func 88) [t39] []) h46 fun h49 =>
K.unmarkK m36 h49 fun h50 => .ok (.int .u8 (.ofNat 3)) h50)) fun j38 =>
K.lenVK t31 fun t51 =>
K.gtK (K.binV ctx .gtr 3 true t51 (.int .i64 (.ofNat 0))) t51 (.int .i64 (.ofNat 0)) fun t52 =>
K.iteV t52 (
K.nilK t21 fun t53 =>
K.fldK 3 t53 fun t54 =>
K.ldK ctx 119 t54 h34 fun t55 =>
K.callFK run 87 [t55, t31] h34 fun t56 h57 =>
j38 [t21, t32] m18 h57) (
j38 [t21, t32] m18 h34))) fun j20 =>
K.nilK t11 fun t58 =>
K.fldK 4 t58 fun t59 =>
K.ldsK ctx 54 12 t59 h9 fun t60 =>
K.callFK run 57 [t13, t60] h9 fun t61 h62 =>
K.lenVK t61 fun t63 =>
K.loopV (nat_lit 1000000) (fun s67 l64 m65 h66 => K.uncons l64 fun t68 l69 => K.uncons l69 fun t70 l71 => K.uncons l71 fun t72 l73 => K.uncons l73 fun t74 l75 => K.uncons l75 fun t76 l77 => K.uncons l77 fun t78 l79 => K.unnil l79 (
K.ltK (K.binV ctx .lss 3 false t78 t76) t78 t76 fun t80 =>
K.iteV t80 (
K.idxSK 1 t74 t78 fun t81 =>
K.ldK ctx 3 t81 h66 fun t82 =>
K.gtK (K.binV ctx .gtr 3 false t82 t72) t82 t72 fun t83 =>
K.iteV t83 (
K.nilK t68 fun t84 =>
K.fldK 1 t84 fun t85 =>
K.ldK ctx 72 t85 h66 fun t86 =>
K.nilK t68 fun t87 =>
K.fldK 2 t87 fun t88 =>
K.ldK ctx 3 t88 h66 fun t89 =>
K.callFK run 85 [t86, t89, t82] h66 fun t90 h91 =>
K.unmarkK m65 h91 fun h92 => .ok (.int .u8 (.ofNat 1)) h92) (
K.addK (K.binV ctx .add 3 true t78 (.int .i64 (.ofNat 1))) t78 (.int .i64 (.ofNat 1)) fun t93 =>
s67 [t68, t70, t72, t74, t76, t93] m65 h66)) (
j20 [t68, t70] m65 h66))) [t11, t13, t15, t61, t63, (.int .i64 (.ofNat 0))] m8 h62)) fun j10 =>
K.nilK t0 fun t94 =>
K.fldK 1 t94 fun t95 =>
K.ldK ctx 72 t95 h6 fun t96 =>
K.nilK t0 fun t97 =>
K.fldK 2 t97 fun t98 =>
K.ldK ctx 3 t98 h6 fun t99 =>
K.callFK run 83 [t96, t99] h6 fun t100 h101 =>
K.lenVK t100 fun t102 =>
K.gtK (K.binV ctx .gtr 3 true t102 (.int .i64 (.ofNat 0))) t102 (.int .i64 (.ofNat 0)) fun t103 =>
K.iteV t103 (
K.callFK run 84 [t100] h101 fun t104 h105 =>
j10 [t0, t5, t104] [] h105) (
j10 [t0, t5, (.int .i64 (.negSucc 0))] [] h101))
noncomputable def r69 : K.KRun → List AV → H → K.KR := fun run args h => K.uncons args fun t0 l1 => K.uncons l1 fun t2 l3 => K.unnil l3 (
K.callFK run 89 [t0, t2] h fun t4 h5 =>
K.geK (K.binV ctx .geq 3 true t4 (.int .i64 (.ofNat 0))) t4 (.int .i64 (.ofNat 0)) fun t6 =>
K.unmarkK [] h5 fun h7 => .ok t6 h7)
noncomputable def r70 : K.KRun → List AV → H → K.KR := fun run args h => K.uncons args fun t0 l1 => K.uncons l1 fun t2 l3 => K.unnil l3 (
K.callFK run 90 [t0, t2] h fun t4 h5 =>
K.eqK (K.binV ctx .eql 187 true t4 .nilPtr) t4 .nilPtr fun t6 =>
K.iteV t6 (
K.unmarkK [] h5 fun h7 => .ok .nilSlice h7) (
K.nilK t4 fun t8 =>
K.fldK 1 t8 fun t9 =>
K.ldK ctx 95 t9 h5 fun t10 =>
K.callFK run 91 [t10] h5 fun t11 h12 =>
K.unmarkK [] h12 fun h13 => .ok t11 h13))
noncomputable def r71 : K.KRun → List AV → H → K.KR := fun run args h => K.uncons args fun t0 l1 => K.unnil l1 (
K.callFK run 92 [(.int .i64 (.ofNat 0)), t0, (.int .i64 (.ofNat 4))] h fun t2 h3 =>
K.unmarkK [] h3 fun h4 => .ok t2 h4)
noncomputable def r72 : K.KRun → List AV → H → K.KR := fun run args h => K.uncons args fun t0 l1 => K.uncons l1 fun t2 l3 => K.unnil l3 (
K.boxK t0 h fun t4 h5 =>
K.boxK t2 h5 fun t6 h7 =>
K.allocK (K.zN ctx 162) (K.zT ctx 162) h7 fun t8 h9 =>
K.letK (fun (l10 : List AV) (m11 : List Nat) (h12 : H) => K.uncons l10 fun t14 l15 => K.unnil l15 (
K.bldSK ctx 162 [] fun t16 =>
K.stsK 3 t14 t16 h12 fun h17 =>
K.unmarkK m11 h17 fun h18 => K.asPtr t14 fun n19 n20 => K.loads h18 n19 n20 3 fun t21 => .ok (.agg t21) h18)) fun j13 =>
K.fldK 0 t6 fun t22 =>
K.ldK ctx 50 t22 h9 fun t23 =>
K.eqK (K.binV ctx .eql 50 true t23 (.int .u8 (.ofNat 1))) t23 (.int .u8 (.ofNat 1)) fun t24 =>
K.iteV t24 (
K.fldK 0 t4 fun t25 =>
K.ldK ctx 101 t25 h9 fun t26 =>
K.fldK 4 t4 fun t27 =>
K.ldK ctx 3 t27 h9 fun t28 =>
K.fldK 2 t6 fun t29 =>
K.ldK ctx 23 t29 h9 fun t30 =>
K.fldK 3 t6 fun t31 =>
K.ldK ctx 23 t31 h9 fun t32 =>
K.callFK run 40 [t26, t28, t30, t32] h9 fun t33 h34 =>
K.extK t33 0 fun t35 =>
K.extK t33 1 fun t36 =>
K.extK t33 2 fun t37 =>
K.allocK (K.zN ctx 57) (K.zT ctx 57) h34 fun t38 h39 =>
K.stsK 4 t38 t36 h39 fun h40 =>
K.eqK (K.binV ctx .eql 35 true t37 (.int .i64 (.ofNat 0))) t37 (.int .i64 (.ofNat 0)) fun t41 =>
K.letK (fun (t42 : AV) (h43 : H) => K.letK (fun (t45 : AV) (h46 : H) => K.pickK t41 t45 (.bool false) fun t48 =>
K.letK (fun (t49 : AV) (h50 : H) => K.letK (fun (t52 : AV) (h53 : H) => K.letK (fun (t55 : AV) (h56 : H) => K.pickK t48 t55 (.bool false) fun t58 =>
K.iteV t58 (
K.ldsK ctx 164 5 t4 h56 fun t59 =>
K.fldK 4 t6 fun t60 =>
K.ldsK ctx 52 8 t60 h56 fun t61 =>
K.callFK run 94 [t59, t61] h56 fun t62 h63 =>
K.stsK 3 t8 t62 h63 fun h64 =>
K.unmarkK [] h64 fun h65 => K.asPtr t8 fun n66 n67 => K.loads h65 n66 n67 3 fun t68 => .ok (.agg t68) h65) (
j13 [t8] [] h56)) fun j57 =>
K.guK true t48 (K.callFK run 93 [t52] h53 fun t69 h70 =>
j57 t69 h70) (j57 (.tup []) h53)) fun j54 =>
K.guK true t48 (K.ldsK ctx 52 8 t49 h50 fun t71 =>
j54 t71 h50) (j54 (.tup []) h50)) fun j51 =>
K.guK true t48 (K.fldK 4 t6 fun t72 =>
j51 t72 h46) (j51 (.tup []) h46)) fun j47 =>
K.guK true t41 (K.eqK (K.binV ctx .eql 55 true t42 (.int .u8 (.ofNat 0))) t42 (.int .u8 (.ofNat 0)) fun t73 =>
j47 t73 h43) (j47 (.tup []) h43)) fun j44 =>
K.guK true t41 (j44 t35 h40) (j44 (.tup []) h40)) (
K.eqK (K.binV ctx .eql 50 true t23 (.int .u8 (.ofNat 4))) t23 (.int .u8 (.ofNat 4)) fun t74 =>
K.iteV t74 (
K.fldK 0 t4 fun t75 =>
K.ldK ctx 101 t75 h9 fun t76 =>
K.fldK 4 t4 fun t77 =>
K.ldK ctx 3 t77 h9 fun t78 =>
K.callFK run 78 [t76, t78] h9 fun t79 h80 =>
K.extK t79 0 fun t81 =>
K.extK t79 1 fun t82 =>
K.allocK (K.zN ctx 143) (K.zT ctx 143) h80 fun t83 h84 =>
K.stsK 3 t83 t81 h84 fun h85 =>
K.eqK (K.binV ctx .eql 35 true t82 (.int .i64 (.ofNat 0))) t82 (.int .i64 (.ofNat 0)) fun t86 =>
K.letK (fun (t87 : AV) (h88 : H) => K.letK (fun (t90 : AV) (h91 : H) => K.pickK t86 t90 (.bool false) fun t93 =>
K.letK (fun (t94 : AV) (h95 : H) => K.letK (fun (t97 : AV) (h98 : H) => K.letK (fun (t100 : AV) (h101 : H) => K.letK (fun (t103 : AV) (h104 : H) => K.letK (fun (t106 : AV) (h107 : H) => K.pickK t93 t106 (.bool false) fun t109 =>
K.iteV t109 (
K.letK (fun (l110 : List AV) (m111 : List Nat) (h112 : H) => K.uncons l110 fun t114 l115 => K.uncons l115 fun t116 l117 => K.uncons l117 fun t118 l119 => K.unnil l119 (
K.ldsK ctx 164 5 t114 h112 fun t120 =>
K.callFK run 95 [t120, t118] h112 fun t121 h122 =>
K.bldSK ctx 162 [(0, (.bool true)), (1, (.bool true)), (2, t121)] fun t123 =>
K.stsK 3 t116 t123 h122 fun h124 =>
K.unmarkK m111 h124 fun h125 => K.asPtr t116 fun n126 n127 => K.loads h125 n126 n127 3 fun t128 => .ok (.agg t128) h125)) fun j113 =>
K.loopV (nat_lit 1000000) (fun s132 l129 m130 h131 => K.uncons l129 fun t133 l134 => K.uncons l134 fun t135 l136 => K.uncons l136 fun t137 l138 => K.uncons l138 fun t139 l140 => K.unnil l140 (
K.ltK (K.binV ctx .lss 23 true t139 (.int .u64 (.ofNat 4))) t139 (.int .u64 (.ofNat 4)) fun t141 =>
K.iteV t141 (
K.bslK ctx 23 1 1 [(0, t139)] h131 fun t142 h143 =>
K.appK ctx 23 1 t137 t142 h143 fun t144 h145 =>
K.addK (K.binV ctx .add 23 true t139 (.int .u64 (.ofNat 1))) t139 (.int .u64 (.ofNat 1)) fun t146 =>
s132 [t133, t135, t144, t146] m130 h145) (
j113 [t133, t135, t137] m130 h131))) [t4, t8, .nilSlice, (.int .u64 (.ofNat 0))] [] h107) (
j13 [t8] [] h107)) fun j108 =>
K.guK true t93 (K.eqK (K.binV ctx .eql 23 false t97 t103) t97 t103 fun t147 =>
j108 t147 h104) (j108 (.tup []) h104)) fun j105 =>
K.guK true t93 (K.ldK ctx 23 t100 h101 fun t148 =>
j105 t148 h101) (j105 (.tup []) h101)) fun j102 =>
K.guK true t93 (K.fldK 2 t6 fun t149 =>
j102 t149 h98) (j102 (.tup []) h98)) fun j99 =>
K.guK true t93 (K.ldK ctx 23 t94 h95 fun t150 =>
j99 t150 h95) (j99 (.tup []) h95)) fun j96 =>
K.guK true t93 (K.fldK 1 t83 fun t151 =>
j96 t151 h91) (j96 (.tup []) h91)) fun j92 =>
K.guK true t86 (K.ldK ctx 4 t87 h88 fun t152 =>
j92 t152 h88) (j92 (.tup []) h88)) fun j89 =>
K.guK true t86 (K.fldK 0 t83 fun t153 =>
j89 t153 h85) (j89 (.tup []) h85)) (
j13 [t8] [] h9)))
noncomputable def r74 : K.KRun → List AV → H → K.KR := fun run args h => K.uncons args fun t0 l1 => K.unnil l1 (
K.callFK run 96 [t0] h fun t2 h3 =>
K.callFK run 97 [t2] h3 fun t4 h5 =>
K.unmarkK [] h5 fun h6 => .ok t2 h6)
noncomputable def r75 : K.KRun → List AV → H → K.KR := fun run args h => K.uncons args fun t0 l1 => K.unnil l1 (
K.boxK t0 h fun t2 h3 =>
K.unmarkK [] h3 fun h4 => .ok (.func (.func 98) [] [t2]) h4)
noncomputable def r76 : K.KRun → List AV → H → K.KR := fun run args h => K.uncons args fun t0 l1 => K.uncons l1 fun t2 l3 => K.unnil l3 (
K.letK (fun (l4 : List AV) (m5 : List Nat) (h6 : H) => K.unnil l4 (
K.unmarkK m5 h6 fun h8 => .ok (.int .i64 (.negSucc 0)) h8)) fun j7 =>
K.lenVK t0 fun t9 =>
K.loopV (nat_lit 1000000) (fun s13 l10 m11 h12 => K.uncons l10 fun t14 l15 => K.uncons l15 fun t16 l17 => K.uncons l17 fun t18 l19 => K.uncons l19 fun t20 l21 => K.unnil l21 (
K.ltK (K.binV ctx .lss 3 false t20 t18) t20 t18 fun t22 =>
K.iteV t22 (
K.idxSK 13 t14 t20 fun t23 =>
K.ldsK ctx 88 13 t23 h12 fun t24 =>
K.callVK run t16 [t24] h12 fun t25 h26 =>
K.iteV t25 (
K.unmarkK m11 h26 fun h27 => .ok t20 h27) (
K.addK (K.binV ctx .add 3 true t20 (.int .i64 (.ofNat 1))) t20 (.int .i64 (.ofNat 1)) fun t28 =>
s13 [t14, t16, t18, t28] m11 h26)) (
j7 [] m11 h12))) [t0, t2, t9, (.int .i64 (.ofNat 0))] [] h)
noncomputable def r77 : K.KRun → List AV → H → K.KR := fun run args h => K.uncons args fun t0 l1 => K.uncons l1 fun t2 l3 => K.unnil l3 (
K.letK (fun (l4 : List AV) (m5 : List Nat) (h6 : H) => K.uncons l4 fun t8 l9 => K.uncons l9 fun t10 l11 => K.unnil l11 (
K.letK (fun (l12 : List AV) (m13 : List Nat) (h14 : H) => K.uncons l12 fun t16 l17 => K.unnil l17 (
K.unmarkK m13 h14 fun h18 => .ok t16 h18)) fun j15 =>
K.slowK ctx run (K.opAt Go.Proofs.Tryz.f77 3 2) [9] [t8] h6 fun t19 h20 =>
K.lenVK t8 fun t21 =>
K.subK (K.binV ctx .sub 3 false t19 t21) t19 t21 fun t22 =>
K.subK (K.binV ctx .sub 3 false t10 t22) t10 t22 fun t23 =>
K.gtK (K.binV ctx .gtr 3 true t23 (.int .i64 (.ofNat 0))) t23 (.int .i64 (.ofNat 0)) fun t24 =>
K.iteV t24 (
K.slowK ctx run (K.opAt Go.Proofs.Tryz.f77 5 2) [18] [t8] h20 fun t25 h26 =>
K.slcK ctx 75 t8 none (some t25) none h26 fun t27 =>
K.slowK ctx run (K.opAt Go.Proofs.Tryz.f77 5 5) [20, 21] [t27, t23] h26 fun t28 h29 =>
K.lenVK t8 fun t30 =>
K.slcK ctx 75 t28 none (some t30) none h29 fun t31 =>
j15 [t31] m5 h29) (
j15 [t8] m5 h20))) fun j7 =>
K.ltK (K.binV ctx .lss 3 true t2 (.int .i64 (.ofNat 0))) t2 (.int .i64 (.ofNat 0)) fun t32 =>
K.iteV t32 (
K.slowK ctx run (K.opAt Go.Proofs.Tryz.f77 2 1) [7] [(.iface 9 (.str [99, 97, 110, 110, 111, 116, 32, 98, 101, 32, 110, 101, 103, 97, 116, 105, 118, 101]))] h fun t33 h34 =>
j7 [t0, t2] [] h34) (
j7 [t0, t2] [] h))
noncomputable def r78 : K.KRun → List AV → H → K.KR := fun run args h => K.uncons args fun t0 l1 => K.uncons l1 fun t2 l3 => K.unnil l3 (
K.allocK (K.zN ctx 143) (K.zT ctx 143) h fun t4 h5 =>
K.callFK run 99 [t0, t2] h5 fun t6 h7 =>
K.extK t6 0 fun t8 =>
K.extK t6 1 fun t9 =>
K.neK (K.binV ctx .neq 35 true t9 (.int .i64 (.ofNat 0))) t9 (.int .i64 (.ofNat 0)) fun t10 =>
K.iteV t10 (
K.bldSK ctx 143 [] fun t11 =>
K.stsK 3 t4 t11 h7 fun h12 =>
K.unmarkK [] h12 fun h13 => K.asPtr t4 fun n14 n15 => K.loads h13 n14 n15 3 fun t16 => .ok (.tup [(.agg t16), t9]) h13) (
K.callFK run 80 [t0, t8] h7 fun t17 h18 =>
K.gtK (K.binV ctx .gtr 23 true t17 (.int .u64 (.ofNat 1))) t17 (.int .u64 (.ofNat 1)) fun t19 =>
K.iteV t19 (
K.bldSK ctx 143 [] fun t20 =>
K.stsK 3 t4 t20 h18 fun h21 =>
K.unmarkK [] h21 fun h22 => K.asPtr t4 fun n23 n24 => K.loads h22 n23 n24 3 fun t25 => .ok (.tup [(.agg t25), (.int .i64 (.ofNat 4))]) h22) (
K.eqK (K.binV ctx .eql 23 true t17 (.int .u64 (.ofNat 1))) t17 (.int .u64 (.ofNat 1)) fun t26 =>
K.addK (K.binV ctx .add 3 true t8 (.int .i64 (.ofNat 1))) t8 (.int .i64 (.ofNat 1)) fun t27 =>
K.callFK run 80 [t0, t27] h18 fun t28 h29 =>
K.addK (K.binV ctx .add 3 true t8 (.int .i64 (.ofNat 2))) t8 (.int .i64 (.ofNat 2)) fun t30 =>
K.callFK run 80 [t0, t30] h29 fun t31 h32 =>
K.bldSK ctx 143 [(0, t26), (1, t28), (2, t31)] fun t33 =>
K.stsK 3 t4 t33 h32 fun h34 =>
K.unmarkK [] h34 fun h35 => K.asPtr t4 fun n36 n37 => K.loads h35 n36 n37 3 fun t38 => .ok (.tup [(.agg t38), (.int .i64 (.ofNat 0))]) h35)))
noncomputable def r79 : K.KRun → List AV → H → K.KR := fun run args h => K.uncons args fun t0 l1 => K.uncons l1 fun t2 l3 => K.uncons l3 fun t4 l5 => K.unnil l5 (
K.callFK run 100 [t2, t4] h fun t6 h7 =>
K.neK (K.binV ctx .neq 101 true t0 .nilPtr) t0 .nilPtr fun t8 =>
K.letK (fun (t9 : AV) (h10 : H) => K.letK (fun (t12 : AV) (h13 : H) => K.pickK t8 t12 (.bool false) fun t15 =>
K.iteV t15 (
K.unmarkK [] h13 fun h16 => .ok (.tup [(.int .i64 (.ofNat 0)), (.int .i64 (.ofNat 1))]) h16) (
K.callFK run 99 [t0, t2] h13 fun t17 h18 =>
K.extK t17 0 fun t19 =>
K.extK t17 1 fun t20 =>
K.unmarkK [] h18 fun h21 => .ok (.tup [t6, t20]) h21)) fun j14 =>
K.guK true t8 (K.ltK (K.binV ctx .lss 3 true t9 (.int .i64 (.ofNat 0))) t9 (.int .i64 (.ofNat 0)) fun t22 =>
j14 t22 h10) (j14 (.tup []) h10)) fun j11 =>
K.guK true t8 (j11 t6 h7) (j11 (.tup []) h7))
noncomputable def r80 : K.KRun → List AV → H → K.KR := fun run args h => K.uncons args fun t0 l1 => K.uncons l1 fun t2 l3 => K.unnil l3 (
K.callFK run 101 [t0, t2] h fun t4 h5 =>
K.notK t4 fun t6 =>
K.iteV t6 (
K.unmarkK [] h5 fun h7 => .ok (.int .u64 (.ofNat 0)) h7) (
K.nilK t0 fun t8 =>
K.fldK 1 t8 fun t9 =>
K.ldK ctx 149 t9 h5 fun t10 =>
K.slowK ctx run (K.opAt Go.Proofs.Tryz.f80 3 5) [15, 16] [t10, t2] h5 fun t11 h12 =>
K.extK t11 0 fun t13 =>
K.extK t11 1 fun t14 =>
K.iteV t14 (
K.unmarkK [] h12 fun h15 => .ok t13 h15) (
K.nilK t0 fun t16 =>
K.fldK 0 t16 fun t17 =>
K.ldK ctx 28 t17 h12 fun t18 =>
K.idxSK 1 t18 t2 fun t19 =>
K.ldK ctx 23 t19 h12 fun t20 =>
K.unmarkK [] h12 fun h21 => .ok t20 h21)))
noncomputable def r82 : K.KRun → List AV → H → K.KR := fun run args h => K.uncons args fun t0 l1 => K.uncons l1 fun t2 l3 => K.unnil l3 (
K.ldK ctx 125 t2 h fun t4 =>
K.lenVK t4 fun t5 =>
K.loopV (nat_lit 1000000) (fun s9 l6 m7 h8 => K.uncons l6 fun t10 l11 => K.uncons l11 fun t12 l13 => K.uncons l13 fun t14 l15 => K.uncons l15 fun t16 l17 => K.unnil l17 (
K.ltK (K.binV ctx .lss 3 false t16 t14) t16 t14 fun t18 =>
K.iteV t18 (
K.ldK ctx 125 t12 h8 fun t19 =>
K.idxSK 6 t19 t16 fun t20 =>
K.fldK 2 t20 fun t21 =>
K.fldK 0 t21 fun t22 =>
K.ldK ctx 4 t22 h8 fun t23 =>
K.letK (fun (t24 : AV) (h25 : H) => K.letK (fun (t27 : AV) (h28 : H) => K.letK (fun (t30 : AV) (h31 : H) => K.letK (fun (t33 : AV) (h34 : H) => K.letK (fun (t36 : AV) (h37 : H) => K.letK (fun (t39 : AV) (h40 : H) => K.pickK t23 t39 (.bool false) fun t42 =>
K.iteV t42 (
K.unmarkK m7 h40 fun h43 => .ok (.tup []) h43) (
K.addK (K.binV ctx .add 3 true t16 (.int .i64 (.ofNat 1))) t16 (.int .i64 (.ofNat 1)) fun t44 =>
s9 [t10, t12, t14, t44] m7 h40)) fun j41 =>
K.guK true t23 (K.notK t36 fun t45 =>
j41 t45 h37) (j41 (.tup []) h37)) fun j38 =>
K.guK true t23 (K.callVK run t24 [t33] h34 fun t46 h47 =>
j38 t46 h47) (j38 (.tup []) h34)) fun j35 =>
K.guK true t23 (K.idxSK 6 t27 t30 fun t48 =>
j35 t48 h31) (j35 (.tup []) h31)) fun j32 =>
K.guK true t23 (j32 t16 h28) (j32 (.tup []) h28)) fun j29 =>
K.guK true t23 (K.ldK ctx 125 t12 h25 fun t49 =>
j29 t49 h25) (j29 (.tup []) h25)) fun j26 =>
K.guK true t23 (j26 t10 h8) (j26 (.tup []) h8)) (
K.unmarkK m7 h8 fun h50 => .ok (.tup []) h50))) [t0, t2, t5, (.int .i64 (.ofNat 0))] [] h)
noncomputable def r83 : K.KRun → List AV → H → K.KR := fun run args h => K.uncons args fun t0 l1 => K.uncons l1 fun t2 l3 => K.unnil l3 (
K.letK (fun (l4 : List AV) (m5 : List Nat) (h6 : H) => K.uncons l4 fun t8 l9 => K.unnil l9 (
K.unmarkK m5 h6 fun h10 => .ok t8 h10)) fun j7 =>
K.loopV (nat_lit 1000000) (fun s14 l11 m12 h13 => K.uncons l11 fun t15 l16 => K.uncons l16 fun t17 l18 => K.uncons l18 fun t19 l20 => K.uncons l20 fun t21 l22 => K.unnil l22 (
K.ltK (K.binV ctx .lss 3 true t21 (.int .i64 (.ofNat 70))) t21 (.int .i64 (.ofNat 70)) fun t23 =>
K.iteV t23 (
K.letK (fun (l24 : List AV) (m25 : List Nat) (h26 : H) => K.uncons l24 fun t28 l29 => K.uncons l29 fun t30 l31 => K.uncons l31 fun t32 l33 => K.uncons l33 fun t34 l35 => K.unnil l35 (
K.addK (K.binV ctx .add 3 true t34 (.int .i64 (.ofNat 1))) t34 (.int .i64 (.ofNat 1)) fun t36 =>
s14 [t28, t30, t32, t36] m25 h26)) fun j27 =>
K.callFK run 102 [t15, t17, t21] h13 fun t37 h38 =>
K.iteV t37 (
K.bslK ctx 3 1 1 [(0, t21)] h38 fun t39 h40 =>
K.appK ctx 3 1 t19 t39 h40 fun t41 h42 =>
j27 [t15, t17, t41, t21] m12 h42) (
j27 [t15, t17, t19, t21] m12 h38)) (
j7 [t19] m12 h13))) [t0, t2, .nilSlice, (.int .i64 (.ofNat 0))] [] h)
noncomputable def r84 : K.KRun → List AV → H → K.KR := fun run args h => K.uncons args fun t0 l1 => K.unnil l1 (
K.letK (fun (l2 : List AV) (m3 : List Nat) (h4 : H) => K.uncons l2 fun t6 l7 => K.unnil l7 (
K.idxSK 1 t6 (.int .i64 (.ofNat 0)) fun t8 =>
K.ldK ctx 3 t8 h4 fun t9 =>
K.letK (fun (l10 : List AV) (m11 : List Nat) (h12 : H) => K.uncons l10 fun t14 l15 => K.unnil l15 (
K.unmarkK m11 h12 fun h16 => .ok t14 h16)) fun j13 =>
K.loopV (nat_lit 1000000) (fun s20 l17 m18 h19 => K.uncons l17 fun t21 l22 => K.uncons l22 fun t23 l24 => K.uncons l24 fun t25 l26 => K.unnil l26 (
K.lenVK t21 fun t27 =>
K.ltK (K.binV ctx .lss 3 false t25 t27) t25 t27 fun t28 =>
K.iteV t28 (
K.idxSK 1 t21 t25 fun t29 =>
K.ldK ctx 3 t29 h19 fun t30 =>
K.slowK ctx run (K.opAt Go.Proofs.Tryz.f84 7 5) [18, 22] [t23, t30] h19 fun t31 h32 =>
K.addK (K.binV ctx .add 3 true t25 (.int .i64 (.ofNat 1))) t25 (.int .i64 (.ofNat 1)) fun t33 =>
s20 [t21, t31, t33] m18 h32) (
j13 [t23] m18 h19))) [t6, t9, (.int .i64 (.ofNat 1))] m3 h4)) fun j5 =>
K.lenVK t0 fun t34 =>
K.ltK (K.binV ctx .lss 3 true t34 (.int .i64 (.ofNat 1))) t34 (.int .i64 (.ofNat 1)) fun t35 =>
K.iteV t35 (
K.slowK ctx run (K.opAt Go.Proofs.Tryz.f84 2 1) [8] [(.iface 9 (.str [115, 108, 105, 99, 101, 115, 46, 77, 97, 120, 58, 32, 101, 109, 112, 116, 121, 32, 108, 105, 115, 116]))] h fun t36 h37 =>
j5 [t0] [] h37) (
j5 [t0] [] h))
noncomputable def r85 : K.KRun → List AV → H → K.KR := fun run args h => K.uncons args fun t0 l1 => K.uncons l1 fun t2 l3 => K.uncons l3 fun t4 l5 => K.unnil l5 (
K.boxK t4 h fun t6 h7 =>
K.eqK (K.binV ctx .eql 72 true t0 .nilPtr) t0 .nilPtr fun t8 =>
K.iteV t8 (
K.unmarkK [] h7 fun h9 => .ok (.tup [(.bool false), (.int .i64 (.ofNat 2))]) h9) (
K.ldK ctx 3 t6 h7 fun t10 =>
K.callFK run 90 [t0, t10] h7 fun t11 h12 =>
K.ltK (K.binV ctx .lss 3 true t2 (.int .i64 (.ofNat 0))) t2 (.int .i64 (.ofNat 0)) fun t13 =>
K.letK (fun (t14 : AV) (h15 : H) => K.letK (fun (t17 : AV) (h18 : H) => K.letK (fun (t20 : AV) (h21 : H) => K.letK (fun (t23 : AV) (h24 : H) => K.letK (fun (t26 : AV) (h27 : H) => K.letK (fun (t29 : AV) (h30 : H) => K.pickK t13 (.bool true) t29 fun t32 =>
K.letK (fun (t33 : AV) (h34 : H) => K.letK (fun (t36 : AV) (h37 : H) => K.pickK t32 (.bool true) t36 fun t39 =>
K.letK (fun (t40 : AV) (h41 : H) => K.letK (fun (t43 : AV) (h44 : H) => K.letK (fun (t46 : AV) (h47 : H) => K.letK (fun (t49 : AV) (h50 : H) => K.letK (fun (t52 : AV) (h53 : H) => K.pickK t39 (.bool true) t52 fun t55 =>
K.iteV t55 (
K.unmarkK [] h53 fun h56 => .ok (.tup [(.bool false), (.int .i64 (.ofNat 1))]) h56) (
K.callFK run 55 [t0, t2] h53 fun t57 h58 =>
K.extK t57 0 fun t59 =>
K.extK t57 1 fun t60 =>
K.iteV t60 (
K.unmarkK [] h58 fun h61 => .ok (.tup [(.bool false), (.int .i64 (.ofNat 3))]) h61) (
K.nilK t11 fun t62 =>
K.fldK 0 t62 fun t63 =>
K.ldK ctx 3 t63 h58 fun t64 =>
K.neK (K.binV ctx .neq 3 true t64 (.int .i64 (.ofNat 0))) t64 (.int .i64 (.ofNat 0)) fun t65 =>
K.iteV t65 (
K.nilK t11 fun t66 =>
K.fldK 1 t66 fun t67 =>
K.ldK ctx 95 t67 h58 fun t68 =>
K.bslK ctx 3 1 1 [(0, t2)] h58 fun t69 h70 =>
K.appK ctx 3 1 t68 t69 h70 fun t71 h72 =>
K.nilK t11 fun t73 =>
K.fldK 1 t73 fun t74 =>
K.stK t74 t71 h72 fun h75 =>
K.unmarkK [] h75 fun h76 => .ok (.tup [(.bool false), (.int .i64 (.ofNat 0))]) h76) (
K.addK (K.binV ctx .add 3 true t2 (.int .i64 (.ofNat 1))) t2 (.int .i64 (.ofNat 1)) fun t77 =>
K.nilK t11 fun t78 =>
K.fldK 0 t78 fun t79 =>
K.stK t79 t77 h58 fun h80 =>
K.unmarkK [] h80 fun h81 => .ok (.tup [(.bool true), (.int .i64 (.ofNat 0))]) h81)))) fun j54 =>
K.guK false t39 (K.callFK run 103 [t46, t49] h50 fun t82 h83 =>
j54 t82 h83) (j54 (.tup []) h50)) fun j51 =>
K.guK false t39 (j51 (.func (.func 104) [] [t6]) h47) (j51 (.tup []) h47)) fun j48 =>
K.guK false t39 (K.callFK run 83 [t40, t43] h44 fun t84 h85 =>
j48 t84 h85) (j48 (.tup []) h44)) fun j45 =>
K.guK false t39 (j45 t2 h41) (j45 (.tup []) h41)) fun j42 =>
K.guK false t39 (j42 t0 h37) (j42 (.tup []) h37)) fun j38 =>
K.guK false t32 (K.eqK (K.binV ctx .eql 187 true t33 .nilPtr) t33 .nilPtr fun t86 =>
j38 t86 h34) (j38 (.tup []) h34)) fun j35 =>
K.guK false t32 (j35 t11 h30) (j35 (.tup []) h30)) fun j31 =>
K.guK false t13 (K.geK (K.binV ctx .geq 3 false t14 t26) t14 t26 fun t87 =>
j31 t87 h27) (j31 (.tup []) h27)) fun j28 =>
K.guK false t13 (K.ldK ctx 3 t23 h24 fun t88 =>
j28 t88 h24) (j28 (.tup []) h24)) fun j25 =>
K.guK false t13 (K.fldK 0 t20 fun t89 =>
j25 t89 h21) (j25 (.tup []) h21)) fun j22 =>
K.guK false t13 (K.nilK t17 fun t90 =>
j22 t90 h18) (j22 (.tup []) h18)) fun j19 =>
K.guK false t13 (j19 t0 h15) (j19 (.tup []) h15)) fun j16 =>
K.guK false t13 (j16 t2 h12) (j16 (.tup []) h12)))
noncomputable def r86 : K.KRun → List AV → H → K.KR := fun run args h => K.uncons args fun t0 l1 => K.uncons l1 fun t2 l3 => K.unnil l3 (
K.boxK t2 h fun t4 h5 =>
K.allocK (K.zN ctx 61) (K.zT ctx 61) h5 fun t6 h7 =>
K.ldsK ctx 54 12 t4 h7 fun t8 =>
K.callFK run 56 [t8] h7 fun t9 h10 =>
K.notK t9 fun t11 =>
K.iteV t11 (
K.bldSK ctx 61 [(1, (.int .i64 (.ofNat 1)))] fun t12 =>
K.stsK 7 t6 t12 h10 fun h13 =>
K.unmarkK [] h13 fun h14 => K.asPtr t6 fun n15 n16 => K.loads h14 n15 n16 7 fun t17 => .ok (.tup [(.agg t17), .nilSlice]) h14) (
K.letK (fun (l18 : List AV) (m19 : List Nat) (h20 : H) => K.uncons l18 fun t22 l23 => K.uncons l23 fun t24 l25 => K.unnil l25 (
K.ldsK ctx 61 7 t22 h20 fun t26 =>
K.stsK 7 t22 t26 h20 fun h27 =>
K.unmarkK m19 h27 fun h28 => K.asPtr t22 fun n29 n30 => K.loads h28 n29 n30 7 fun t31 => .ok (.tup [(.agg t31), t24]) h28)) fun j21 =>
K.fldK 0 t4 fun t32 =>
K.ldK ctx 50 t32 h10 fun t33 =>
K.eqK (K.binV ctx .eql 50 true t33 (.int .u8 (.ofNat 1))) t33 (.int .u8 (.ofNat 1)) fun t34 =>
K.iteV t34 (
K.fldK 1 t4 fun t35 =>
K.ldK ctx 3 t35 h10 fun t36 =>
K.fldK 2 t4 fun t37 =>
K.ldK ctx 23 t37 h10 fun t38 =>
K.fldK 3 t4 fun t39 =>
K.ldK ctx 23 t39 h10 fun t40 =>
K.fldK 4 t4 fun t41 =>
K.ldsK ctx 52 8 t41 h10 fun t42 =>
K.callFK run 105 [t0, t36, t38, t40, t42] h10 fun t43 h44 =>
K.extK t43 0 fun t45 =>
K.extK t43 1 fun t46 =>
K.extK t43 2 fun t47 =>
K.extK t43 3 fun t48 =>
K.fldK 0 t6 fun t49 =>
K.stK t49 t45 h44 fun h50 =>
K.fldK 3 t6 fun t51 =>
K.stsK 4 t51 t46 h50 fun h52 =>
K.fldK 1 t6 fun t53 =>
K.stK t53 t48 h52 fun h54 =>
j21 [t6, t47] [] h54) (
K.eqK (K.binV ctx .eql 50 true t33 (.int .u8 (.ofNat 2))) t33 (.int .u8 (.ofNat 2)) fun t55 =>
K.iteV t55 (
K.fldK 1 t4 fun t56 =>
K.ldK ctx 3 t56 h10 fun t57 =>
K.fldK 2 t4 fun t58 =>
K.ldK ctx 23 t58 h10 fun t59 =>
K.fldK 3 t4 fun t60 =>
K.ldK ctx 23 t60 h10 fun t61 =>
K.callFK run 106 [t0, t57, t59, t61] h10 fun t62 h63 =>
K.extK t62 0 fun t64 =>
K.extK t62 1 fun t65 =>
K.extK t62 2 fun t66 =>
K.fldK 2 t6 fun t67 =>
K.stK t67 t64 h63 fun h68 =>
K.fldK 1 t6 fun t69 =>
K.stK t69 t66 h68 fun h70 =>
j21 [t6, t65] [] h70) (
K.eqK (K.binV ctx .eql 50 true t33 (.int .u8 (.ofNat 3))) t33 (.int .u8 (.ofNat 3)) fun t71 =>
K.iteV t71 (
K.fldK 1 t4 fun t72 =>
K.ldK ctx 3 t72 h10 fun t73 =>
K.fldK 2 t4 fun t74 =>
K.ldK ctx 23 t74 h10 fun t75 =>
K.callFK run 107 [t0, t73, t75] h10 fun t76 h77 =>
K.extK t76 0 fun t78 =>
K.extK t76 1 fun t79 =>
K.extK t76 2 fun t80 =>
K.fldK 0 t6 fun t81 =>
K.stK t81 t78 h77 fun h82 =>
K.fldK 1 t6 fun t83 =>
K.stK t83 t80 h82 fun h84 =>
j21 [t6, t79] [] h84) (
K.eqK (K.binV ctx .eql 50 true t33 (.int .u8 (.ofNat 4))) t33 (.int .u8 (.ofNat 4)) fun t85 =>
K.iteV t85 (
K.fldK 1 t4 fun t86 =>
K.ldK ctx 3 t86 h10 fun t87 =>
K.fldK 2 t4 fun t88 =>
K.ldK ctx 23 t88 h10 fun t89 =>
K.callFK run 108 [t0, t87, t89] h10 fun t90 h91 =>
K.extK t90 0 fun t92 =>
K.extK t90 1 fun t93 =>
K.extK t90 2 fun t94 =>
K.fldK 0 t6 fun t95 =>
K.stK t95 t92 h91 fun h96 =>
K.fldK 1 t6 fun t97 =>
K.stK t97 t94 h96 fun h98 =>
j21 [t6, t93] [] h98) (
j21 [t6, .nilSlice] [] h10))))))
noncomputable def r87 : K.KRun → List AV → H → K.KR := fun run args h => K.uncons args fun t0 l1 => K.uncons l1 fun t2 l3 => K.unnil l3 (
K.eqK (K.binV ctx .eql 119 true t0 .nilPtr) t0 .nilPtr fun t4 =>
K.iteV t4 (
K.unmarkK [] h fun h5 => .ok (.int .i64 (.ofNat 2)) h5) (
K.nilK t0 fun t6 =>
K.fldK 5 t6 fun t7 =>
K.ldK ctx 152 t7 h fun t8 =>
K.lenVK t8 fun t9 =>
K.gtK (K.binV ctx .gtr 3 true t9 (.int .i64 (.ofNat 0))) t9 (.int .i64 (.ofNat 0)) fun t10 =>
K.iteV t10 (
K.unmarkK [] h fun h11 => .ok (.int .i64 (.ofNat 3)) h11) (
K.nilK t0 fun t12 =>
K.fldK 1 t12 fun t13 =>
K.ldsK ctx 26 3 t13 h fun t14 =>
K.callFK run 109 [t14, t2] h fun t15 h16 =>
K.notK t15 fun t17 =>
K.iteV t17 (
K.unmarkK [] h16 fun h18 => .ok (.int .i64 (.ofNat 1)) h18) (
K.callFK run 110 [t2] h16 fun t19 h20 =>
K.extK t19 0 fun t21 =>
K.extK t19 1 fun t22 =>
K.neK (K.binV ctx .neq 35 true t22 (.int .i64 (.ofNat 0))) t22 (.int .i64 (.ofNat 0)) fun t23 =>
K.iteV t23 (
K.unmarkK [] h20 fun h24 => .ok t22 h24) (
K.letK (fun (l25 : List AV) (m26 : List Nat) (h27 : H) => K.uncons l25 fun t29 l30 => K.uncons l30 fun t31 l32 => K.uncons l32 fun t33 l34 => K.uncons l34 fun t35 l36 => K.unnil l36 (
K.callFK run 111 [t29, (.int .u8 (.ofNat 1)), (.int .u8 (.ofNat 2)), t35] h27 fun t37 h38 =>
K.callFK run 113 [t33] h38 fun t39 h40 =>
K.callFK run 112 [t29, (.int .u8 (.ofNat 3)), t39] h40 fun t41 h42 =>
K.callFK run 115 [t31] h42 fun t43 h44 =>
K.callFK run 114 [t29, t43] h44 fun t45 h46 =>
K.unmarkK m26 h46 fun h47 => .ok (.int .i64 (.ofNat 0)) h47)) fun j28 =>
K.lenVK t21 fun t48 =>
K.loopV (nat_lit 1000000) (fun s52 l49 m50 h51 => K.uncons l49 fun t53 l54 => K.uncons l54 fun t55 l56 => K.uncons l56 fun t57 l58 => K.uncons l58 fun t59 l60 => K.uncons l60 fun t61 l62 => K.uncons l62 fun t63 l64 => K.uncons l64 fun t65 l66 => K.unnil l66 (
K.ltK (K.binV ctx .lss 3 false t65 t63) t65 t63 fun t67 =>
K.iteV t67 (
K.idxSK 1 t61 t65 fun t68 =>
K.ldK ctx 23 t68 h51 fun t69 =>
K.nilK t53 fun t70 =>
K.fldK 4 t70 fun t71 =>
K.ldK ctx 3 t71 h51 fun t72 =>
K.addK (K.binV ctx .add 3 true t72 (.int .i64 (.ofNat 8))) t72 (.int .i64 (.ofNat 8)) fun t73 =>
K.addK (K.binV ctx .add 3 false t73 t65) t73 t65 fun t74 =>
K.bldSK ctx 212 [(0, t74), (1, t69)] fun t75 =>
K.bslK ctx 212 2 1 [(0, t75)] h51 fun t76 h77 =>
K.appK ctx 212 2 t59 t76 h77 fun t78 h79 =>
K.addK (K.binV ctx .add 3 true t65 (.int .i64 (.ofNat 1))) t65 (.int .i64 (.ofNat 1)) fun t80 =>
s52 [t53, t55, t57, t78, t61, t63, t80] m50 h79) (
j28 [t53, t55, t57, t59] m50 h51))) [t0, t2, t21, .nilSlice, t21, t48, (.int .i64 (.ofNat 0))] [] h20)))))
noncomputable def r88 : K.KRun → List AV → H → K.KR := fun run args h => K.uncons args fun t0 l1 => K.unnil l1 (
K.nilK t0 fun t2 =>
K.fldK 3 t2 fun t3 =>
K.ldK ctx 119 t3 h fun t4 =>
K.callFK run 116 [t4] h fun t5 h6 =>
K.gtK (K.binV ctx .gtr 3 true t5 (.int .i64 (.ofNat 0))) t5 (.int .i64 (.ofNat 0)) fun t7 =>
K.iteV t7 (
K.nilK t0 fun t8 =>
K.fldK 3 t8 fun t9 =>
K.ldK ctx 119 t9 h6 fun t10 =>
K.callFK run 117 [t10] h6 fun t11 h12 =>
K.extK t11 0 fun t13 =>
K.extK t11 1 fun t14 =>
K.addK (K.binV ctx .add 45 true (.int .u8 (.ofNat 3)) t13) (.int .u8 (.ofNat 3)) t13 fun t15 =>
K.unmarkK [] h12 fun h16 => .ok t15 h16) (
K.nilK t0 fun t17 =>
K.fldK 1 t17 fun t18 =>
K.ldK ctx 72 t18 h6 fun t19 =>
K.nilK t0 fun t20 =>
K.fldK 2 t20 fun t21 =>
K.ldK ctx 3 t21 h6 fun t22 =>
K.callFK run 118 [t19, t22] h6 fun t23 h24 =>
K.nilK t0 fun t25 =>
K.fldK 16 t25 fun t26 =>
K.stK t26 .nilFunc h24 fun h27 =>
K.nilK t0 fun t28 =>
K.fldK 24 t28 fun t29 =>
K.stK t29 (.bool true) h27 fun h30 =>
K.unmarkK [] h30 fun h31 => .ok (.int .u8 (.ofNat 10)) h31))
noncomputable def r89 : K.KRun → List AV → H → K.KR := fun run args h => K.uncons args fun t0 l1 => K.uncons l1 fun t2 l3 => K.unnil l3 (
K.letK (fun (l4 : List AV) (m5 : List Nat) (h6 : H) => K.unnil l4 (
K.unmarkK m5 h6 fun h8 => .ok (.int .i64 (.negSucc 0)) h8)) fun j7 =>
K.lenVK t0 fun t9 =>
K.loopV (nat_lit 1000000) (fun s13 l10 m11 h12 => K.uncons l10 fun t14 l15 => K.uncons l15 fun t16 l17 => K.uncons l17 fun t18 l19 => K.uncons l19 fun t20 l21 => K.unnil l21 (
K.ltK (K.binV ctx .lss 3 false t20 t18) t20 t18 fun t22 =>
K.iteV t22 (
K.idxSK 1 t14 t20 fun t23 =>
K.ldK ctx 3 t23 h12 fun t24 =>
K.eqK (K.binV ctx .eql 3 false t16 t24) t16 t24 fun t25 =>
K.iteV t25 (
K.unmarkK m11 h12 fun h26 => .ok t20 h26) (
K.addK (K.binV ctx .add 3 true t20 (.int .i64 (.ofNat 1))) t20 (.int .i64 (.ofNat 1)) fun t27 =>
s13 [t14, t16, t18, t27] m11 h12)) (
j7 [] m11 h12))) [t0, t2, t9, (.int .i64 (.ofNat 0))] [] h)
noncomputable def r90 : K.KRun → List AV → H → K.KR := fun run args h => K.uncons args fun t0 l1 => K.uncons l1 fun t2 l3 => K.unnil l3 (
K.eqK (K.binV ctx .eql 72 true t0 .nilPtr) t0 .nilPtr fun t4 =>
K.letK (fun (t5 : AV) (h6 : H) => K.letK (fun (t8 : AV) (h9 : H) => K.pickK t4 (.bool true) t8 fun t11 =>
K.letK (fun (t12 : AV) (h13 : H) => K.letK (fun (t15 : AV) (h16 : H) => K.pickK t11 (.bool true) t15 fun t18 =>
K.iteV t18 (
K.unmarkK [] h16 fun h19 => .ok .nilPtr h19) (
K.nilK t0 fun t20 =>
K.fldK 1 t20 fun t21 =>
K.idxAK 70 2 t21 t2 fun t22 =>
K.unmarkK [] h16 fun h23 => .ok t22 h23)) fun j17 =>
K.guK false t11 (K.geK (K.binV ctx .geq 3 true t12 (.int .i64 (.ofNat 70))) t12 (.int .i64 (.ofNat 70)) fun t24 =>
j17 t24 h13) (j17 (.tup []) h13)) fun j14 =>
K.guK false t11 (j14 t2 h9) (j14 (.tup []) h9)) fun j10 =>
K.guK false t4 (K.ltK (K.binV ctx .lss 3 true t5 (.int .i64 (.ofNat 0))) t5 (.int .i64 (.ofNat 0)) fun t25 =>
j10 t25 h6) (j10 (.tup []) h6)) fun j7 =>
K.guK false t4 (j7 t2 h) (j7 (.tup []) h))
noncomputable def r91 : K.KRun → List AV → H → K.KR := fun run args h => K.uncons args fun t0 l1 => K.unnil l1 (
K.eqK (K.binV ctx .eql 95 true t0 .nilSlice) t0 .nilSlice fun t2 =>
K.iteV t2 (
K.unmarkK [] h fun h3 => .ok .nilSlice h3) (
K.bslK ctx 3 1 0 [] h fun t4 h5 =>
K.appK ctx 3 1 t4 t0 h5 fun t6 h7 =>
K.unmarkK [] h7 fun h8 => .ok t6 h8))
noncomputable def r92 : K.KRun → List AV → H → K.KR := fun run args h => K.uncons args fun t0 l1 => K.uncons l1 fun t2 l3 => K.uncons l3 fun t4 l5 => K.unnil l5 (
K.ltK (K.binV ctx .lss 3 true t2 (.int .i64 (.ofNat 0))) t2 (.int .i64 (.ofNat 0)) fun t6 =>
K.letK (fun (t7 : AV) (h8 : H) => K.letK (fun (t10 : AV) (h11 : H) => K.letK (fun (t13 : AV) (h14 : H) => K.pickK t6 (.bool true) t13 fun t16 =>
K.iteV t16 (
K.unmarkK [] h14 fun h17 => .ok (.int .i64 (.negSucc 0)) h17) (
K.addK (K.binV ctx .add 3 false t0 t2) t0 t2 fun t18 =>
K.unmarkK [] h14 fun h19 => .ok t18 h19)) fun j15 =>
K.guK false t6 (K.geK (K.binV ctx .geq 3 false t7 t10) t7 t10 fun t20 =>
j15 t20 h11) (j15 (.tup []) h11)) fun j12 =>
K.guK false t6 (j12 t4 h8) (j12 (.tup []) h8)) fun j9 =>
K.guK false t6 (j9 t2 h) (j9 (.tup []) h))
noncomputable def r96 : K.KRun → List AV → H → K.KR := fun run args h => K.uncons args fun t0 l1 => K.unnil l1 (
K.callFK run 123 [.nilSlice, t0] h fun t2 h3 =>
K.unmarkK [] h3 fun h4 => .ok t2 h4)
noncomputable def r97 : K.KRun → List AV → H → K.KR := fun run args h => K.uncons args fun t0 l1 => K.unnil l1 (
K.lenVK t0 fun t2 =>
K.rK (convA ctx 3 232 t2 h) fun t3 h4 =>
K.callFK run 125 [t3] h4 fun t5 h6 =>
K.callFK run 124 [t0, (.int .i64 (.ofNat 0)), t2, t5] h6 fun t7 h8 =>
K.unmarkK [] h8 fun h9 => .ok (.tup []) h9)
noncomputable def r98 : K.KRun → List AV → H → K.KR := fun run args h => K.uncons args fun t0 l1 => K.uncons l1 fun t2 l3 => K.unnil l3 (
K.ldK ctx 160 t2 h fun t4 =>
K.slowK ctx run (K.opAt Go.Proofs.Tryz.f98 0 1) [4] [t4] h fun t5 h6 =>
K.loopV (nat_lit 1000000) (fun s10 l7 m8 h9 => K.uncons l7 fun t11 l12 => K.uncons l12 fun t13 l14 => K.unnil l14 (
K.slowK ctx run (K.opAt Go.Proofs.Tryz.f98 1 0) [5] [t13] h9 fun t15 h16 =>
K.extK t15 0 fun t17 =>
K.iteV t17 (
K.slowK ctx run (K.opAt Go.Proofs.Tryz.f98 2 0) [5] [t13] h16 fun t18 h19 =>
K.extK t18 0 fun t20 =>
K.callVK run t11 [t20] h19 fun t21 h22 =>
K.notK t21 fun t23 =>
K.iteV t23 (
K.unmarkK m8 h22 fun h24 => .ok (.tup []) h24) (
s10 [t11, t13] m8 h22)) (
K.unmarkK m8 h16 fun h25 => .ok (.tup []) h25))) [t0, t5] [] h6)
noncomputable def r99 : K.KRun → List AV → H → K.KR := fun run args h => K.uncons args fun t0 l1 => K.uncons l1 fun t2 l3 => K.unnil l3 (
K.callFK run 126 [t2] h fun t4 h5 =>
K.eqK (K.binV ctx .eql 101 true t0 .nilPtr) t0 .nilPtr fun t6 =>
K.iteV t6 (
K.unmarkK [] h5 fun h7 => .ok (.tup [(.int .i64 (.ofNat 0)), (.int .i64 (.ofNat 2))]) h7) (
K.ltK (K.binV ctx .lss 3 true t4 (.int .i64 (.ofNat 0))) t4 (.int .i64 (.ofNat 0)) fun t8 =>
K.iteV t8 (
K.unmarkK [] h5 fun h9 => .ok (.tup [(.int .i64 (.ofNat 0)), (.int .i64 (.ofNat 1))]) h9) (
K.callFK run 127 [t0] h5 fun t10 h11 =>
K.addK (K.binV ctx .add 3 true t4 (.int .i64 (.ofNat 64))) t4 (.int .i64 (.ofNat 64)) fun t12 =>
K.ltK (K.binV ctx .lss 3 false t10 t12) t10 t12 fun t13 =>
K.iteV t13 (
K.unmarkK [] h11 fun h14 => .ok (.tup [(.int .i64 (.ofNat 0)), (.int .i64 (.ofNat 8))]) h14) (
K.unmarkK [] h11 fun h15 => .ok (.tup [t4, (.int .i64 (.ofNat 0))]) h15))))
noncomputable def r100 : K.KRun → List AV → H → K.KR := fun run args h => K.uncons args fun t0 l1 => K.uncons l1 fun t2 l3 => K.unnil l3 (
K.callFK run 128 [t0, t2, (.int .i64 (.ofNat 4)), (.int .i64 (.ofNat 8)), (.int .i64 (.ofNat 12))] h fun t4 h5 =>
K.unmarkK [] h5 fun h6 => .ok t4 h6)
noncomputable def r101 : K.KRun → List AV → H → K.KR := fun run args h => K.uncons args fun t0 l1 => K.uncons l1 fun t2 l3 => K.unnil l3 (
K.geK (K.binV ctx .geq 3 true t2 (.int .i64 (.ofNat 0))) t2 (.int .i64 (.ofNat 0)) fun t4 =>
K.letK (fun (t5 : AV) (h6 : H) => K.letK (fun (t8 : AV) (h9 : H) => K.letK (fun (t11 : AV) (h12 : H) => K.letK (fun (t14 : AV) (h15 : H) => K.pickK t4 t14 (.bool false) fun t17 =>
K.unmarkK [] h15 fun h18 => .ok t17 h18) fun j16 =>
K.guK true t4 (K.ltK (K.binV ctx .lss 3 false t5 t11) t5 t11 fun t19 =>
j16 t19 h12) (j16 (.tup []) h12)) fun j13 =>
K.guK true t4 (K.callFK run 127 [t8] h9 fun t20 h21 =>
j13 t20 h21) (j13 (.tup []) h9)) fun j10 =>
K.guK true t4 (j10 t0 h6) (j10 (.tup []) h6)) fun j7 =>
K.guK true t4 (j7 t2 h) (j7 (.tup []) h))
noncomputable def r102 : K.KRun → List AV → H → K.KR := fun run args h => K.uncons args fun t0 l1 => K.uncons l1 fun t2 l3 => K.uncons l3 fun t4 l5 => K.unnil l5 (
K.callFK run 90 [t0, t4] h fun t6 h7 =>
K.neK (K.binV ctx .neq 187 true t6 .nilPtr) t6 .nilPtr fun t8 =>
K.letK (fun (t9 : AV) (h10 : H) => K.letK (fun (t12 : AV) (h13 : H) => K.pickK t8 t12 (.bool false) fun t15 =>
K.letK (fun (t16 : AV) (h17 : H) => K.letK (fun (t19 : AV) (h20 : H) => K.letK (fun (t22 : AV) (h23 : H) => K.letK (fun (t25 : AV) (h26 : H) => K.letK (fun (t28 : AV) (h29 : H) => K.letK (fun (t31 : AV) (h32 : H) => K.letK (fun (t34 : AV) (h35 : H) => K.pickK t15 t34 (.bool false) fun t37 =>
K.unmarkK [] h35 fun h38 => .ok t37 h38) fun j36 =>
K.guK true t15 (K.eqK (K.binV ctx .eql 3 false t25 t31) t25 t31 fun t39 =>
j36 t39 h32) (j36 (.tup []) h32)) fun j33 =>
K.guK true t15 (K.addK (K.binV ctx .add 3 true t28 (.int .i64 (.ofNat 1))) t28 (.int .i64 (.ofNat 1)) fun t40 =>
j33 t40 h29) (j33 (.tup []) h29)) fun j30 =>
K.guK true t15 (j30 t2 h26) (j30 (.tup []) h26)) fun j27 =>
K.guK true t15 (K.ldK ctx 3 t22 h23 fun t41 =>
j27 t41 h23) (j27 (.tup []) h23)) fun j24 =>
K.guK true t15 (K.fldK 0 t19 fun t42 =>
j24 t42 h20) (j24 (.tup []) h20)) fun j21 =>
K.guK true t15 (K.nilK t16 fun t43 =>
j21 t43 h17) (j21 (.tup []) h17)) fun j18 =>
K.guK true t15 (j18 t6 h13) (j18 (.tup []) h13)) fun j14 =>
K.guK true t8 (K.geK (K.binV ctx .geq 3 true t9 (.int .i64 (.ofNat 0))) t9 (.int .i64 (.ofNat 0)) fun t44 =>
j14 t44 h10) (j14 (.tup []) h10)) fun j11 =>
K.guK true t8 (j11 t2 h7) (j11 (.tup []) h7))
noncomputable def r103 : K.KRun → List AV → H → K.KR := fun run args h => K.uncons args fun t0 l1 => K.uncons l1 fun t2 l3 => K.unnil l3 (
K.callFK run 129 [t0, t2] h fun t4 h5 =>
K.geK (K.binV ctx .geq 3 true t4 (.int .i64 (.ofNat 0))) t4 (.int .i64 (.ofNat 0)) fun t6 =>
K.unmarkK [] h5 fun h7 => .ok t6 h7)
noncomputable def r107 : K.KRun → List AV → H → K.KR := fun run args h => K.uncons args fun t0 l1 => K.uncons l1 fun t2 l3 => K.uncons l3 fun t4 l5 => K.unnil l5 (
K.callFK run 7 [t0] h fun t6 h7 =>
K.extK t6 0 fun t8 =>
K.extK t6 1 fun t9 =>
K.allocK (K.zN ctx 26) (K.zT ctx 26) h7 fun t10 h11 =>
K.stsK 3 t10 t8 h11 fun h12 =>
K.notK t9 fun t13 =>
K.iteV t13 (
K.unmarkK [] h12 fun h14 => .ok (.tup [(.int .u8 (.ofNat 0)), .nilSlice, (.int .i64 (.ofNat 4))]) h14) (
K.callFK run 41 [t0] h12 fun t15 h16 =>
K.callFK run 135 [t15, t2, t4] h16 fun t17 h18 =>
K.extK t17 0 fun t19 =>
K.extK t17 1 fun t20 =>
K.callFK run 136 [t15, t19, t20] h18 fun t21 h22 =>
K.extK t21 0 fun t23 =>
K.extK t21 1 fun t24 =>
K.extK t21 2 fun t25 =>
K.unmarkK [] h22 fun h26 => .ok (.tup [t23, t24, t25]) h26))
end YthlpjeoddenioaaGreatDoorSfM
