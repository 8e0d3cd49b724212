/- PRINTED BY Gen2.lean (own): functions as plain texts, part 0. -/
import Derived.Test.YtpfgllikhklnoaaGreatDoorNmCtx
namespace YtpfgllikhklnoaaGreatDoorNmM
open Go Am
set_option maxRecDepth 100000
noncomputable def r3 : K.KRun → List AV → H → K.KR := fun run args h => K.uncons args fun t0 l1 => K.uncons l1 fun t2 l3 => K.uncons l3 fun t4 l5 => K.uncons l5 fun t6 l7 => K.unnil l7 (
K.boxK t0 h fun t8 h9 =>
K.ldsK ctx 23 3 t8 h9 fun t10 =>
K.callFK run 6 [.nilPtr, t10, t2, (.int .u64 (.ofNat 1))] h9 fun t11 h12 =>
K.extK t11 0 fun t13 =>
K.extK t11 1 fun t14 =>
K.callFK run 7 [(.int .u8 (.ofNat 3)), (.int .u8 (.ofNat 9))] h12 fun t15 h16 =>
K.allocK (K.zN ctx 23) (K.zT ctx 23) h16 fun t17 h18 =>
K.stsK 3 t17 t15 h18 fun h19 =>
K.ldsK ctx 23 3 t17 h19 fun t20 =>
K.callFK run 9 [t20] h19 fun t21 h22 =>
K.callFK run 8 [t21] h22 fun t23 h24 =>
K.eqK (K.binV ctx .eql 29 true t23 .nilPtr) t23 .nilPtr fun t25 =>
K.iteV t25 (
K.unmarkK [] h24 fun h26 => .ok (.bool false) h26) (
K.ldsK ctx 23 3 t17 h24 fun t27 =>
K.callFK run 6 [t23, t27, (.str [47, 97]), (.int .u64 (.ofNat 3))] h24 fun t28 h29 =>
K.extK t28 0 fun t30 =>
K.extK t28 1 fun t31 =>
K.ldsK ctx 23 3 t17 h29 fun t32 =>
K.callFK run 6 [t23, t32, (.str [47]), (.int .u64 (.ofNat 2))] h29 fun t33 h34 =>
K.extK t33 0 fun t35 =>
K.extK t33 1 fun t36 =>
K.eqK (K.binV ctx .eql 24 true t14 (.int .i64 (.ofNat 2))) t14 (.int .i64 (.ofNat 2)) fun t37 =>
K.letK (fun (t38 : AV) (h39 : H) => K.letK (fun (t41 : AV) (h42 : H) => K.pickK t37 t41 (.bool false) fun t44 =>
K.letK (fun (t45 : AV) (h46 : H) => K.letK (fun (t48 : AV) (h49 : H) => K.letK (fun (t51 : AV) (h52 : H) => K.letK (fun (t54 : AV) (h55 : H) => K.letK (fun (t57 : AV) (h58 : H) => K.pickK t44 t57 (.bool false) fun t60 =>
K.letK (fun (t61 : AV) (h62 : H) => K.letK (fun (t64 : AV) (h65 : H) => K.letK (fun (t67 : AV) (h68 : H) => K.letK (fun (t70 : AV) (h71 : H) => K.pickK t60 t70 (.bool false) fun t73 =>
K.letK (fun (t74 : AV) (h75 : H) => K.letK (fun (t77 : AV) (h78 : H) => K.letK (fun (t80 : AV) (h81 : H) => K.letK (fun (t83 : AV) (h84 : H) => K.pickK t73 t83 (.bool false) fun t86 =>
K.letK (fun (t87 : AV) (h88 : H) => K.letK (fun (t90 : AV) (h91 : H) => K.letK (fun (t93 : AV) (h94 : H) => K.letK (fun (t96 : AV) (h97 : H) => K.pickK t86 t96 (.bool false) fun t99 =>
K.letK (fun (t100 : AV) (h101 : H) => K.letK (fun (t103 : AV) (h104 : H) => K.letK (fun (t106 : AV) (h107 : H) => K.letK (fun (t109 : AV) (h110 : H) => K.pickK t99 t109 (.bool false) fun t112 =>
K.letK (fun (t113 : AV) (h114 : H) => K.letK (fun (t116 : AV) (h117 : H) => K.pickK t112 t116 (.bool false) fun t119 =>
K.letK (fun (t120 : AV) (h121 : H) => K.letK (fun (t123 : AV) (h124 : H) => K.pickK t119 t123 (.bool false) fun t126 =>
K.letK (fun (t127 : AV) (h128 : H) => K.letK (fun (t130 : AV) (h131 : H) => K.letK (fun (t133 : AV) (h134 : H) => K.letK (fun (t136 : AV) (h137 : H) => K.pickK t126 t136 (.bool false) fun t139 =>
K.letK (fun (t140 : AV) (h141 : H) => K.letK (fun (t143 : AV) (h144 : H) => K.letK (fun (t146 : AV) (h147 : H) => K.letK (fun (t149 : AV) (h150 : H) => K.pickK t139 t149 (.bool false) fun t152 =>
K.letK (fun (t153 : AV) (h154 : H) => K.letK (fun (t156 : AV) (h157 : H) => K.letK (fun (t159 : AV) (h160 : H) => K.letK (fun (t162 : AV) (h163 : H) => K.pickK t152 t162 (.bool false) fun t165 =>
K.letK (fun (t166 : AV) (h167 : H) => K.pickK t165 t166 (.bool false) fun t169 =>
K.unmarkK [] h167 fun h170 => .ok t169 h170) fun j168 =>
K.guK true t165 (K.callFK run 16 [] h163 fun t171 h172 =>
j168 t171 h172) (j168 (.tup []) h163)) fun j164 =>
K.guK true t152 (K.eqK (K.binV ctx .eql 3 true t159 (.int .i64 (.ofNat 0))) t159 (.int .i64 (.ofNat 0)) fun t173 =>
j164 t173 h160) (j164 (.tup []) h160)) fun j161 =>
K.guK true t152 (K.lenVK t156 fun t174 =>
j161 t174 h157) (j161 (.tup []) h157)) fun j158 =>
K.guK true t152 (K.callFK run 15 [t153] h154 fun t175 h176 =>
j158 t175 h176) (j158 (.tup []) h154)) fun j155 =>
K.guK true t152 (j155 t23 h150) (j155 (.tup []) h150)) fun j151 =>
K.guK true t139 (K.eqK (K.binV ctx .eql 24 true t146 (.int .i64 (.ofNat 11))) t146 (.int .i64 (.ofNat 11)) fun t177 =>
j151 t177 h147) (j151 (.tup []) h147)) fun j148 =>
K.guK true t139 (K.callFK run 10 [t140, t143, (.str [47]), (.str [47, 98])] h144 fun t178 h179 =>
j148 t178 h179) (j148 (.tup []) h144)) fun j145 =>
K.guK true t139 (K.ldsK ctx 23 3 t17 h141 fun t180 =>
j145 t180 h141) (j145 (.tup []) h141)) fun j142 =>
K.guK true t139 (j142 t23 h137) (j142 (.tup []) h137)) fun j138 =>
K.guK true t126 (K.eqK (K.binV ctx .eql 24 true t133 (.int .i64 (.ofNat 13))) t133 (.int .i64 (.ofNat 13)) fun t181 =>
j138 t181 h134) (j138 (.tup []) h134)) fun j135 =>
K.guK true t126 (K.callFK run 12 [t127, t130, (.str [47])] h131 fun t182 h183 =>
j135 t182 h183) (j135 (.tup []) h131)) fun j132 =>
K.guK true t126 (K.ldsK ctx 23 3 t17 h128 fun t184 =>
j132 t184 h128) (j132 (.tup []) h128)) fun j129 =>
K.guK true t126 (j129 t23 h124) (j129 (.tup []) h124)) fun j125 =>
K.guK true t119 (K.eqK (K.binV ctx .eql 24 true t120 (.int .i64 (.ofNat 13))) t120 (.int .i64 (.ofNat 13)) fun t185 =>
j125 t185 h121) (j125 (.tup []) h121)) fun j122 =>
K.guK true t119 (j122 t36 h117) (j122 (.tup []) h117)) fun j118 =>
K.guK true t112 (K.eqK (K.binV ctx .eql 24 true t113 (.int .i64 (.ofNat 1))) t113 (.int .i64 (.ofNat 1)) fun t186 =>
j118 t186 h114) (j118 (.tup []) h114)) fun j115 =>
K.guK true t112 (j115 t31 h110) (j115 (.tup []) h110)) fun j111 =>
K.guK true t99 (K.eqK (K.binV ctx .eql 24 true t106 (.int .i64 (.ofNat 2))) t106 (.int .i64 (.ofNat 2)) fun t187 =>
j111 t187 h107) (j111 (.tup []) h107)) fun j108 =>
K.guK true t99 (K.callFK run 14 [.nilPtr, t100, t103] h104 fun t188 h189 =>
j108 t188 h189) (j108 (.tup []) h104)) fun j105 =>
K.guK true t99 (j105 t6 h101) (j105 (.tup []) h101)) fun j102 =>
K.guK true t99 (K.ldsK ctx 23 3 t8 h97 fun t190 =>
j102 t190 h97) (j102 (.tup []) h97)) fun j98 =>
K.guK true t86 (K.eqK (K.binV ctx .eql 24 true t93 (.int .i64 (.ofNat 2))) t93 (.int .i64 (.ofNat 2)) fun t191 =>
j98 t191 h94) (j98 (.tup []) h94)) fun j95 =>
K.guK true t86 (K.callFK run 13 [.nilPtr, t87, t90] h91 fun t192 h193 =>
j95 t192 h193) (j95 (.tup []) h91)) fun j92 =>
K.guK true t86 (j92 t6 h88) (j92 (.tup []) h88)) fun j89 =>
K.guK true t86 (K.ldsK ctx 23 3 t8 h84 fun t194 =>
j89 t194 h84) (j89 (.tup []) h84)) fun j85 =>
K.guK true t73 (K.eqK (K.binV ctx .eql 24 true t80 (.int .i64 (.ofNat 2))) t80 (.int .i64 (.ofNat 2)) fun t195 =>
j85 t195 h81) (j85 (.tup []) h81)) fun j82 =>
K.guK true t73 (K.callFK run 12 [.nilPtr, t74, t77] h78 fun t196 h197 =>
j82 t196 h197) (j82 (.tup []) h78)) fun j79 =>
K.guK true t73 (j79 t2 h75) (j79 (.tup []) h75)) fun j76 =>
K.guK true t73 (K.ldsK ctx 23 3 t8 h71 fun t198 =>
j76 t198 h71) (j76 (.tup []) h71)) fun j72 =>
K.guK true t60 (K.eqK (K.binV ctx .eql 24 true t67 (.int .i64 (.ofNat 2))) t67 (.int .i64 (.ofNat 2)) fun t199 =>
j72 t199 h68) (j72 (.tup []) h68)) fun j69 =>
K.guK true t60 (K.callFK run 11 [.nilPtr, t61, t64] h65 fun t200 h201 =>
j69 t200 h201) (j69 (.tup []) h65)) fun j66 =>
K.guK true t60 (j66 t2 h62) (j66 (.tup []) h62)) fun j63 =>
K.guK true t60 (K.ldsK ctx 23 3 t8 h58 fun t202 =>
j63 t202 h58) (j63 (.tup []) h58)) fun j59 =>
K.guK true t44 (K.eqK (K.binV ctx .eql 24 true t54 (.int .i64 (.ofNat 2))) t54 (.int .i64 (.ofNat 2)) fun t203 =>
j59 t203 h55) (j59 (.tup []) h55)) fun j56 =>
K.guK true t44 (K.callFK run 10 [.nilPtr, t45, t48, t51] h52 fun t204 h205 =>
j56 t204 h205) (j56 (.tup []) h52)) fun j53 =>
K.guK true t44 (j53 t4 h49) (j53 (.tup []) h49)) fun j50 =>
K.guK true t44 (j50 t2 h46) (j50 (.tup []) h46)) fun j47 =>
K.guK true t44 (K.ldsK ctx 23 3 t8 h42 fun t206 =>
j47 t206 h42) (j47 (.tup []) h42)) fun j43 =>
K.guK true t37 (K.eqK (K.binV ctx .eql 3 true t38 (.int .i64 (.ofNat 0))) t38 (.int .i64 (.ofNat 0)) fun t207 =>
j43 t207 h39) (j43 (.tup []) h39)) fun j40 =>
K.guK true t37 (j40 t13 h34) (j40 (.tup []) h34)))
noncomputable def r6 : K.KRun → List AV → H → K.KR := fun run args h => K.uncons args fun t0 l1 => K.uncons l1 fun t2 l3 => K.uncons l3 fun t4 l5 => K.uncons l5 fun t6 l7 => K.unnil l7 (
K.boxK t0 h fun t8 h9 =>
K.boxK t2 h9 fun t10 h11 =>
K.ldK ctx 29 t8 h11 fun t12 =>
K.eqK (K.binV ctx .eql 29 true t12 .nilPtr) t12 .nilPtr fun t13 =>
K.iteV t13 (
K.unmarkK [] h11 fun h14 => .ok (.tup [(.int .i64 (.ofNat 0)), (.int .i64 (.ofNat 2))]) h14) (
K.neK (K.binV ctx .neq 27 true t6 (.int .u64 (.ofNat 1))) t6 (.int .u64 (.ofNat 1)) fun t15 =>
K.letK (fun (t16 : AV) (h17 : H) => K.letK (fun (t19 : AV) (h20 : H) => K.pickK t15 t19 (.bool false) fun t22 =>
K.iteV t22 (
K.unmarkK [] h20 fun h23 => .ok (.tup [(.int .i64 (.ofNat 0)), (.int .i64 (.ofNat 1))]) h23) (
K.ldK ctx 29 t8 h20 fun t24 =>
K.ldsK ctx 23 3 t10 h20 fun t25 =>
K.callFK run 25 [t24, t25, t4] h20 fun t26 h27 =>
K.extK t26 0 fun t28 =>
K.extK t26 1 fun t29 =>
K.extK t26 2 fun t30 =>
K.allocK (K.zN ctx 3) (K.zT ctx 3) h27 fun t31 h32 =>
K.allocK (K.zN ctx 9) (K.zT ctx 9) h32 fun t33 h34 =>
K.stK t31 t28 h34 fun h35 =>
K.stK t33 t29 h35 fun h36 =>
K.neK (K.binV ctx .neq 24 true t30 (.int .i64 (.ofNat 0))) t30 (.int .i64 (.ofNat 0)) fun t37 =>
K.iteV t37 (
K.unmarkK [] h36 fun h38 => .ok (.tup [(.int .i64 (.ofNat 0)), t30]) h38) (
K.ldK ctx 29 t8 h36 fun t39 =>
K.ldsK ctx 23 3 t10 h36 fun t40 =>
K.callFK run 26 [t39, t40] h36 fun t41 h42 =>
K.extK t41 0 fun t43 =>
K.extK t41 1 fun t44 =>
K.neK (K.binV ctx .neq 24 true t44 (.int .i64 (.ofNat 0))) t44 (.int .i64 (.ofNat 0)) fun t45 =>
K.iteV t45 (
K.unmarkK [] h42 fun h46 => .ok (.tup [(.int .i64 (.ofNat 0)), t44]) h46) (
K.callFK run 27 [t43] h42 fun t47 h48 =>
K.extK t47 0 fun t49 =>
K.extK t47 1 fun t50 =>
K.allocK (K.zN ctx 3) (K.zT ctx 3) h48 fun t51 h52 =>
K.stK t51 t49 h52 fun h53 =>
K.neK (K.binV ctx .neq 24 true t50 (.int .i64 (.ofNat 0))) t50 (.int .i64 (.ofNat 0)) fun t54 =>
K.iteV t54 (
K.unmarkK [] h53 fun h55 => .ok (.tup [(.int .i64 (.ofNat 0)), t50]) h55) (
K.bldSK ctx 58 [(0, t6), (1, (.int .u64 (.ofNat 1)))] fun t56 =>
K.allocK (K.zN ctx 58) (K.zT ctx 58) h53 fun t57 h58 =>
K.stsK 10 t57 t56 h58 fun h59 =>
K.letK (fun (l60 : List AV) (m61 : List Nat) (h62 : H) => K.uncons l60 fun t64 l65 => K.uncons l65 fun t66 l67 => K.uncons l67 fun t68 l69 => K.uncons l69 fun t70 l71 => K.uncons l71 fun t72 l73 => K.uncons l73 fun t74 l75 => K.unnil l75 (
K.bslK ctx 61 1 2 [(0, (.func (.func 29) [] [t64, t66, t72, t74])), (1, (.func (.func 31) [] [t64, t66, t68, t70, t72]))] h62 fun t76 h77 =>
K.callFK run 28 [t76] h77 fun t78 h79 =>
K.neK (K.binV ctx .neq 24 true t78 (.int .i64 (.ofNat 0))) t78 (.int .i64 (.ofNat 0)) fun t80 =>
K.iteV t80 (
K.unmarkK m61 h79 fun h81 => .ok (.tup [(.int .i64 (.ofNat 0)), t78]) h81) (
K.ldK ctx 3 t72 h79 fun t82 =>
K.unmarkK m61 h79 fun h83 => .ok (.tup [t82, (.int .i64 (.ofNat 0))]) h83))) fun j63 =>
K.eqK (K.binV ctx .eql 27 true t6 (.int .u64 (.ofNat 2))) t6 (.int .u64 (.ofNat 2)) fun t84 =>
K.iteV t84 (
K.ldK ctx 3 t31 h59 fun t85 =>
K.rK (convA ctx 3 27 t85 h59) fun t86 h87 =>
K.fldK 9 t57 fun t88 =>
K.stK t88 t86 h87 fun h89 =>
j63 [t8, t10, t31, t33, t51, t57] [] h89) (
j63 [t8, t10, t31, t33, t51, t57] [] h59)))))) fun j21 =>
K.guK true t15 (K.neK (K.binV ctx .neq 27 true t16 (.int .u64 (.ofNat 2))) t16 (.int .u64 (.ofNat 2)) fun t90 =>
j21 t90 h17) (j21 (.tup []) h17)) fun j18 =>
K.guK true t15 (j18 t6 h11) (j18 (.tup []) h11)))
noncomputable def r7 : K.KRun → List AV → H → K.KR := fun run args h => K.uncons args fun t0 l1 => K.uncons l1 fun t2 l3 => K.unnil l3 (
K.allocK (K.zN ctx 23) (K.zT ctx 23) h fun t4 h5 =>
K.rK (convA ctx 5 3 t0 h5) fun t6 h7 =>
K.oK (K.binV ctx .rem 3 true t6 (.int .i64 (.ofNat 20))) fun t8 =>
K.addK (K.binV ctx .add 3 true (.int .i64 (.ofNat 2)) t8) (.int .i64 (.ofNat 2)) t8 fun t9 =>
K.rK (convA ctx 5 3 t2 h7) fun t10 h11 =>
K.oK (K.binV ctx .rem 3 true t10 (.int .i64 (.ofNat 60))) fun t12 =>
K.addK (K.binV ctx .add 3 true (.int .i64 (.ofNat 2)) t12) (.int .i64 (.ofNat 2)) t12 fun t13 =>
K.bldSK ctx 23 [(0, (.int .i64 (.ofNat 1))), (1, t9), (2, t13)] fun t14 =>
K.stsK 3 t4 t14 h11 fun h15 =>
K.unmarkK [] h15 fun h16 => K.asPtr t4 fun n17 n18 => K.loads h16 n17 n18 3 fun t19 => .ok (.agg t19) h16)
noncomputable def r8 : K.KRun → List AV → H → K.KR := fun run args h => K.uncons args fun t0 l1 => K.unnil l1 (
K.callFK run 33 [t0] h fun t2 h3 =>
K.slowK ctx run (K.opAt Go.Proofs.Tryz.f8 1 2) [] [] h3 fun t4 h5 =>
K.bldSK ctx 69 [(0, t2), (1, t4)] fun t6 =>
K.boxK t6 h5 fun t7 h8 =>
K.unmarkK [] h8 fun h9 => .ok t7 h9)
noncomputable def r9 : K.KRun → List AV → H → K.KR := fun run args h => K.uncons args fun t0 l1 => K.unnil l1 (
K.boxK t0 h fun t2 h3 =>
K.ldsK ctx 33 3 t2 h3 fun t4 =>
K.callFK run 34 [t4] h3 fun t5 h6 =>
K.notK t5 fun t7 =>
K.iteV t7 (
K.unmarkK [] h6 fun h8 => .ok .nilSlice h8) (
K.ldsK ctx 33 3 t2 h6 fun t9 =>
K.callFK run 35 [t9] h6 fun t10 h11 =>
K.mslK ctx 27 1 t10 t10 h11 fun t12 h13 =>
K.idxSK 1 t12 (.int .i64 (.ofNat 0)) fun t14 =>
K.stK t14 (.int .u64 (.ofNat 32762617960297063)) h13 fun h15 =>
K.fldK 0 t2 fun t16 =>
K.ldK ctx 3 t16 h15 fun t17 =>
K.rK (convA ctx 3 27 t17 h15) fun t18 h19 =>
K.idxSK 1 t12 (.int .i64 (.ofNat 1)) fun t20 =>
K.stK t20 t18 h19 fun h21 =>
K.fldK 1 t2 fun t22 =>
K.ldK ctx 3 t22 h21 fun t23 =>
K.rK (convA ctx 3 27 t23 h21) fun t24 h25 =>
K.idxSK 1 t12 (.int .i64 (.ofNat 2)) fun t26 =>
K.stK t26 t24 h25 fun h27 =>
K.fldK 2 t2 fun t28 =>
K.ldK ctx 3 t28 h27 fun t29 =>
K.rK (convA ctx 3 27 t29 h27) fun t30 h31 =>
K.idxSK 1 t12 (.int .i64 (.ofNat 3)) fun t32 =>
K.stK t32 t30 h31 fun h33 =>
K.ldsK ctx 33 3 t2 h33 fun t34 =>
K.callFK run 36 [t34] h33 fun t35 h36 =>
K.idxSK 1 t12 t35 fun t37 =>
K.stK t37 (.int .u64 (.ofNat 3)) h36 fun h38 =>
K.ldsK ctx 33 3 t2 h38 fun t39 =>
K.callFK run 37 [t39] h38 fun t40 h41 =>
K.idxSK 1 t12 t40 fun t42 =>
K.stK t42 (.int .u64 (.ofNat 1)) h41 fun h43 =>
K.ldsK ctx 33 3 t2 h43 fun t44 =>
K.callFK run 38 [t44, (.int .i64 (.ofNat 1))] h43 fun t45 h46 =>
K.idxSK 1 t12 t45 fun t47 =>
K.stK t47 (.int .u64 (.ofNat 2)) h46 fun h48 =>
K.ldsK ctx 33 3 t2 h48 fun t49 =>
K.callFK run 38 [t49, (.int .i64 (.ofNat 1))] h48 fun t50 h51 =>
K.addK (K.binV ctx .add 3 true t50 (.int .i64 (.ofNat 1))) t50 (.int .i64 (.ofNat 1)) fun t52 =>
K.idxSK 1 t12 t52 fun t53 =>
K.stK t53 (.int .u64 (.ofNat 1)) h51 fun h54 =>
K.unmarkK [] h54 fun h55 => .ok t12 h55))
noncomputable def r10 : K.KRun → List AV → H → K.KR := fun run args h => K.uncons args fun t0 l1 => K.uncons l1 fun t2 l3 => K.uncons l3 fun t4 l5 => K.uncons l5 fun t6 l7 => K.unnil l7 (
K.boxK t0 h fun t8 h9 =>
K.boxK t2 h9 fun t10 h11 =>
K.ldK ctx 29 t8 h11 fun t12 =>
K.ldsK ctx 23 3 t10 h11 fun t13 =>
K.callFK run 39 [t12, t13, t4] h11 fun t14 h15 =>
K.extK t14 0 fun t16 =>
K.extK t14 1 fun t17 =>
K.allocK (K.zN ctx 3) (K.zT ctx 3) h15 fun t18 h19 =>
K.stK t18 t16 h19 fun h20 =>
K.neK (K.binV ctx .neq 24 true t17 (.int .i64 (.ofNat 0))) t17 (.int .i64 (.ofNat 0)) fun t21 =>
K.iteV t21 (
K.unmarkK [] h20 fun h22 => .ok t17 h22) (
K.ldK ctx 29 t8 h20 fun t23 =>
K.ldsK ctx 23 3 t10 h20 fun t24 =>
K.ldK ctx 3 t18 h20 fun t25 =>
K.callFK run 40 [t23, t24, t25] h20 fun t26 h27 =>
K.extK t26 0 fun t28 =>
K.extK t26 1 fun t29 =>
K.allocK (K.zN ctx 58) (K.zT ctx 58) h27 fun t30 h31 =>
K.stsK 10 t30 t28 h31 fun h32 =>
K.letK (fun (l33 : List AV) (m34 : List Nat) (h35 : H) => K.uncons l33 fun t37 l38 => K.uncons l38 fun t39 l40 => K.uncons l40 fun t41 l42 => K.uncons l42 fun t43 l44 => K.uncons l44 fun t45 l46 => K.uncons l46 fun t47 l48 => K.unnil l48 (
K.neK (K.binV ctx .neq 24 true t45 (.int .i64 (.ofNat 0))) t45 (.int .i64 (.ofNat 0)) fun t49 =>
K.iteV t49 (
K.unmarkK m34 h35 fun h50 => .ok t45 h50) (
K.ldK ctx 29 t39 h35 fun t51 =>
K.ldsK ctx 23 3 t41 h35 fun t52 =>
K.callFK run 25 [t51, t52, t37] h35 fun t53 h54 =>
K.extK t53 0 fun t55 =>
K.extK t53 1 fun t56 =>
K.extK t53 2 fun t57 =>
K.allocK (K.zN ctx 3) (K.zT ctx 3) h54 fun t58 h59 =>
K.allocK (K.zN ctx 9) (K.zT ctx 9) h59 fun t60 h61 =>
K.stK t58 t55 h61 fun h62 =>
K.stK t60 t56 h62 fun h63 =>
K.letK (fun (l64 : List AV) (m65 : List Nat) (h66 : H) => K.uncons l64 fun t68 l69 => K.uncons l69 fun t70 l71 => K.uncons l71 fun t72 l73 => K.uncons l73 fun t74 l75 => K.uncons l75 fun t76 l77 => K.uncons l77 fun t78 l79 => K.uncons l79 fun t80 l81 => K.unnil l81 (
K.neK (K.binV ctx .neq 24 true t74 (.int .i64 (.ofNat 0))) t74 (.int .i64 (.ofNat 0)) fun t82 =>
K.iteV t82 (
K.unmarkK m65 h66 fun h83 => .ok t74 h83) (
K.bslK ctx 61 1 2 [(0, (.func (.func 41) [] [t68, t70, t78, t80, t72])), (1, (.func (.func 42) [] [t68, t70, t72, t76]))] h66 fun t84 h85 =>
K.callFK run 28 [t84] h85 fun t86 h87 =>
K.unmarkK m65 h87 fun h88 => .ok t86 h88))) fun j67 =>
K.eqK (K.binV ctx .eql 24 true t57 (.int .i64 (.ofNat 0))) t57 (.int .i64 (.ofNat 0)) fun t89 =>
K.letK (fun (t90 : AV) (h91 : H) => K.letK (fun (t93 : AV) (h94 : H) => K.letK (fun (t96 : AV) (h97 : H) => K.pickK t89 t96 (.bool false) fun t99 =>
K.iteV t99 (
j67 [t39, t41, t43, (.int .i64 (.ofNat 18)), t47, t58, t60] m34 h97) (
j67 [t39, t41, t43, t57, t47, t58, t60] m34 h97)) fun j98 =>
K.guK true t89 (K.geK (K.binV ctx .geq 27 true t93 (.int .u64 (.ofNat 65536))) t93 (.int .u64 (.ofNat 65536)) fun t100 =>
j98 t100 h94) (j98 (.tup []) h94)) fun j95 =>
K.guK true t89 (K.ldK ctx 27 t90 h91 fun t101 =>
j95 t101 h91) (j95 (.tup []) h91)) fun j92 =>
K.guK true t89 (K.fldK 1 t47 fun t102 =>
j92 t102 h63) (j92 (.tup []) h63)))) fun j36 =>
K.eqK (K.binV ctx .eql 24 true t29 (.int .i64 (.ofNat 0))) t29 (.int .i64 (.ofNat 0)) fun t103 =>
K.letK (fun (t104 : AV) (h105 : H) => K.letK (fun (t107 : AV) (h108 : H) => K.letK (fun (t110 : AV) (h111 : H) => K.pickK t103 t110 (.bool false) fun t113 =>
K.iteV t113 (
j36 [t6, t8, t10, t18, (.int .i64 (.ofNat 11)), t30] [] h111) (
j36 [t6, t8, t10, t18, t29, t30] [] h111)) fun j112 =>
K.guK true t103 (K.eqK (K.binV ctx .eql 27 true t107 (.int .u64 (.ofNat 2))) t107 (.int .u64 (.ofNat 2)) fun t114 =>
j112 t114 h108) (j112 (.tup []) h108)) fun j109 =>
K.guK true t103 (K.ldK ctx 27 t104 h105 fun t115 =>
j109 t115 h105) (j109 (.tup []) h105)) fun j106 =>
K.guK true t103 (K.fldK 0 t30 fun t116 =>
j106 t116 h32) (j106 (.tup []) h32)))
noncomputable def r11 : K.KRun → List AV → H → K.KR := fun run args h => K.uncons args fun t0 l1 => K.uncons l1 fun t2 l3 => K.uncons l3 fun t4 l5 => K.unnil l5 (
K.boxK t2 h fun t6 h7 =>
K.ldsK ctx 23 3 t6 h7 fun t8 =>
K.bldSK ctx 80 [(0, t0), (1, t8), (2, (.func (.func 45) [] []))] fun t9 =>
K.callFK run 46 [t9, t4] h7 fun t10 h11 =>
K.unmarkK [] h11 fun h12 => .ok t10 h12)
noncomputable def r12 : K.KRun → List AV → H → K.KR := fun run args h => K.uncons args fun t0 l1 => K.uncons l1 fun t2 l3 => K.uncons l3 fun t4 l5 => K.unnil l5 (
K.boxK t0 h fun t6 h7 =>
K.boxK t2 h7 fun t8 h9 =>
K.ldK ctx 29 t6 h9 fun t10 =>
K.ldsK ctx 23 3 t8 h9 fun t11 =>
K.bldSK ctx 80 [(0, t10), (1, t11), (2, (.func (.func 47) [] [t6, t8]))] fun t12 =>
K.callFK run 46 [t12, t4] h9 fun t13 h14 =>
K.unmarkK [] h14 fun h15 => .ok t13 h15)
noncomputable def r13 : K.KRun → List AV → H → K.KR := fun run args h => K.uncons args fun t0 l1 => K.uncons l1 fun t2 l3 => K.uncons l3 fun t4 l5 => K.unnil l5 (
K.boxK t0 h fun t6 h7 =>
K.boxK t2 h7 fun t8 h9 =>
K.boxK t4 h9 fun t10 h11 =>
K.ldK ctx 29 t6 h11 fun t12 =>
K.ldsK ctx 23 3 t8 h11 fun t13 =>
K.ldK ctx 3 t10 h11 fun t14 =>
K.callFK run 40 [t12, t13, t14] h11 fun t15 h16 =>
K.extK t15 0 fun t17 =>
K.extK t15 1 fun t18 =>
K.allocK (K.zN ctx 58) (K.zT ctx 58) h16 fun t19 h20 =>
K.stsK 10 t19 t17 h20 fun h21 =>
K.letK (fun (l22 : List AV) (m23 : List Nat) (h24 : H) => K.uncons l22 fun t26 l27 => K.uncons l27 fun t28 l29 => K.uncons l29 fun t30 l31 => K.uncons l31 fun t32 l33 => K.uncons l33 fun t34 l35 => K.unnil l35 (
K.neK (K.binV ctx .neq 24 true t34 (.int .i64 (.ofNat 0))) t34 (.int .i64 (.ofNat 0)) fun t36 =>
K.iteV t36 (
K.unmarkK m23 h24 fun h37 => .ok t34 h37) (
K.bslK ctx 61 1 2 [(0, (.func (.func 49) [] [t26, t28, t30, t32])), (1, (.func (.func 50) [] [t26, t28, t30]))] h24 fun t38 h39 =>
K.callFK run 28 [t38] h39 fun t40 h41 =>
K.unmarkK m23 h41 fun h42 => .ok t40 h42))) fun j25 =>
K.eqK (K.binV ctx .eql 24 true t18 (.int .i64 (.ofNat 0))) t18 (.int .i64 (.ofNat 0)) fun t43 =>
K.letK (fun (t44 : AV) (h45 : H) => K.letK (fun (t47 : AV) (h48 : H) => K.letK (fun (t50 : AV) (h51 : H) => K.pickK t43 t50 (.bool false) fun t53 =>
K.iteV t53 (
j25 [t6, t8, t10, t19, (.int .i64 (.ofNat 4))] [] h51) (
j25 [t6, t8, t10, t19, t18] [] h51)) fun j52 =>
K.guK true t43 (K.eqK (K.binV ctx .eql 27 true t47 (.int .u64 (.ofNat 0))) t47 (.int .u64 (.ofNat 0)) fun t54 =>
j52 t54 h48) (j52 (.tup []) h48)) fun j49 =>
K.guK true t43 (K.ldK ctx 27 t44 h45 fun t55 =>
j49 t55 h45) (j49 (.tup []) h45)) fun j46 =>
K.guK true t43 (K.fldK 1 t19 fun t56 =>
j46 t56 h21) (j46 (.tup []) h21))
noncomputable def r14 : K.KRun → List AV → H → K.KR := fun run args h => K.uncons args fun t0 l1 => K.uncons l1 fun t2 l3 => K.uncons l3 fun t4 l5 => K.unnil l5 (
K.boxK t0 h fun t6 h7 =>
K.boxK t2 h7 fun t8 h9 =>
K.boxK t4 h9 fun t10 h11 =>
K.ldK ctx 29 t6 h11 fun t12 =>
K.ldsK ctx 23 3 t8 h11 fun t13 =>
K.ldK ctx 3 t10 h11 fun t14 =>
K.callFK run 40 [t12, t13, t14] h11 fun t15 h16 =>
K.extK t15 0 fun t17 =>
K.extK t15 1 fun t18 =>
K.allocK (K.zN ctx 58) (K.zT ctx 58) h16 fun t19 h20 =>
K.stsK 10 t19 t17 h20 fun h21 =>
K.neK (K.binV ctx .neq 24 true t18 (.int .i64 (.ofNat 0))) t18 (.int .i64 (.ofNat 0)) fun t22 =>
K.letK (fun (t23 : AV) (h24 : H) => K.letK (fun (t26 : AV) (h27 : H) => K.letK (fun (t29 : AV) (h30 : H) => K.pickK t22 (.bool true) t29 fun t32 =>
K.letK (fun (t33 : AV) (h34 : H) => K.letK (fun (t36 : AV) (h37 : H) => K.letK (fun (t39 : AV) (h40 : H) => K.pickK t32 (.bool true) t39 fun t42 =>
K.iteV t42 (
K.unmarkK [] h40 fun h43 => .ok t18 h43) (
K.ldK ctx 29 t6 h40 fun t44 =>
K.ldsK ctx 23 3 t8 h40 fun t45 =>
K.ldK ctx 3 t10 h40 fun t46 =>
K.callFK run 51 [t44, t45, t46] h40 fun t47 h48 =>
K.extK t47 0 fun t49 =>
K.extK t47 1 fun t50 =>
K.allocK (K.zN ctx 85) (K.zT ctx 85) h48 fun t51 h52 =>
K.stK t51 t49 h52 fun h53 =>
K.neK (K.binV ctx .neq 24 true t50 (.int .i64 (.ofNat 0))) t50 (.int .i64 (.ofNat 0)) fun t54 =>
K.iteV t54 (
K.unmarkK [] h53 fun h55 => .ok t50 h55) (
K.bslK ctx 61 1 3 [(0, (.func (.func 52) [] [t51])), (1, (.func (.func 54) [] [t6, t8, t10])), (2, (.func (.func 56) [] [t6, t8, t10]))] h53 fun t56 h57 =>
K.callFK run 28 [t56] h57 fun t58 h59 =>
K.unmarkK [] h59 fun h60 => .ok t58 h60))) fun j41 =>
K.guK false t32 (K.gtK (K.binV ctx .gtr 27 true t36 (.int .u64 (.ofNat 0))) t36 (.int .u64 (.ofNat 0)) fun t61 =>
j41 t61 h37) (j41 (.tup []) h37)) fun j38 =>
K.guK false t32 (K.ldK ctx 27 t33 h34 fun t62 =>
j38 t62 h34) (j38 (.tup []) h34)) fun j35 =>
K.guK false t32 (K.fldK 2 t19 fun t63 =>
j35 t63 h30) (j35 (.tup []) h30)) fun j31 =>
K.guK false t22 (K.gtK (K.binV ctx .gtr 27 true t26 (.int .u64 (.ofNat 0))) t26 (.int .u64 (.ofNat 0)) fun t64 =>
j31 t64 h27) (j31 (.tup []) h27)) fun j28 =>
K.guK false t22 (K.ldK ctx 27 t23 h24 fun t65 =>
j28 t65 h24) (j28 (.tup []) h24)) fun j25 =>
K.guK false t22 (K.fldK 1 t19 fun t66 =>
j25 t66 h21) (j25 (.tup []) h21))
noncomputable def r15 : K.KRun → List AV → H → K.KR := fun run args h => K.uncons args fun t0 l1 => K.unnil l1 (
K.eqK (K.binV ctx .eql 29 true t0 .nilPtr) t0 .nilPtr fun t2 =>
K.iteV t2 (
K.unmarkK [] h fun h3 => .ok .nilSlice h3) (
K.letK (fun (l4 : List AV) (m5 : List Nat) (h6 : H) => K.uncons l4 fun t8 l9 => K.unnil l9 (
K.unmarkK m5 h6 fun h10 => .ok t8 h10)) fun j7 =>
K.nilK t0 fun t11 =>
K.fldK 2 t11 fun t12 =>
K.ldK ctx 67 t12 h fun t13 =>
K.lenVK t13 fun t14 =>
K.loopV (nat_lit 1000000) (fun s18 l15 m16 h17 => K.uncons l15 fun t19 l20 => K.uncons l20 fun t21 l22 => K.uncons l22 fun t23 l24 => K.uncons l24 fun t25 l26 => K.uncons l26 fun t27 l28 => K.unnil l28 (
K.ltK (K.binV ctx .lss 3 false t27 t25) t27 t25 fun t29 =>
K.iteV t29 (
K.idxSK 1 t23 t27 fun t30 =>
K.ldK ctx 3 t30 h17 fun t31 =>
K.nilK t19 fun t32 =>
K.fldK 1 t32 fun t33 =>
K.ldK ctx 66 t33 h17 fun t34 =>
K.slowK ctx run (K.opAt Go.Proofs.Tryz.f15 6 7) [21, 22] [t34, t31] h17 fun t35 h36 =>
K.bldSK ctx 90 [(0, t31), (1, t35)] fun t37 =>
K.bslK ctx 90 2 1 [(0, t37)] h36 fun t38 h39 =>
K.appK ctx 90 2 t21 t38 h39 fun t40 h41 =>
K.addK (K.binV ctx .add 3 true t27 (.int .i64 (.ofNat 1))) t27 (.int .i64 (.ofNat 1)) fun t42 =>
s18 [t19, t40, t23, t25, t42] m16 h41) (
j7 [t21] m16 h17))) [t0, .nilSlice, t13, t14, (.int .i64 (.ofNat 0))] [] h))
noncomputable def r16 : K.KRun → List AV → H → K.KR := fun run args h => K.unnil args (
K.bldSK ctx 23 [(0, (.int .i64 (.ofNat 1))), (1, (.int .i64 (.ofNat 9))), (2, (.int .i64 (.ofNat 30)))] fun t0 =>
K.allocK (K.zN ctx 23) (K.zT ctx 23) h fun t1 h2 =>
K.stsK 3 t1 t0 h2 fun h3 =>
K.ldsK ctx 23 3 t1 h3 fun t4 =>
K.callFK run 9 [t4] h3 fun t5 h6 =>
K.callFK run 8 [t5] h6 fun t7 h8 =>
K.eqK (K.binV ctx .eql 29 true t7 .nilPtr) t7 .nilPtr fun t9 =>
K.iteV t9 (
K.unmarkK [] h8 fun h10 => .ok (.bool false) h10) (
K.ldsK ctx 23 3 t1 h8 fun t11 =>
K.callFK run 6 [t7, t11, (.str [47, 100]), (.int .u64 (.ofNat 2))] h8 fun t12 h13 =>
K.extK t12 0 fun t14 =>
K.extK t12 1 fun t15 =>
K.ldsK ctx 23 3 t1 h13 fun t16 =>
K.callFK run 6 [t7, t16, (.str [47, 100, 47, 102]), (.int .u64 (.ofNat 1))] h13 fun t17 h18 =>
K.extK t17 0 fun t19 =>
K.extK t17 1 fun t20 =>
K.ldsK ctx 23 3 t1 h18 fun t21 =>
K.callFK run 10 [t7, t21, (.str [47, 100, 47, 102]), (.str [47, 103])] h18 fun t22 h23 =>
K.ldsK ctx 23 3 t1 h23 fun t24 =>
K.callFK run 12 [t7, t24, (.str [47, 100])] h23 fun t25 h26 =>
K.ldsK ctx 23 3 t1 h26 fun t27 =>
K.callFK run 11 [t7, t27, (.str [47, 100, 47, 102])] h26 fun t28 h29 =>
K.ldsK ctx 23 3 t1 h29 fun t30 =>
K.callFK run 12 [t7, t30, (.str [47, 100])] h29 fun t31 h32 =>
K.ldsK ctx 23 3 t1 h32 fun t33 =>
K.callFK run 6 [t7, t33, (.str [47, 101]), (.int .u64 (.ofNat 1))] h32 fun t34 h35 =>
K.extK t34 0 fun t36 =>
K.extK t34 1 fun t37 =>
K.eqK (K.binV ctx .eql 24 true t15 (.int .i64 (.ofNat 0))) t15 (.int .i64 (.ofNat 0)) fun t38 =>
K.letK (fun (t39 : AV) (h40 : H) => K.letK (fun (t42 : AV) (h43 : H) => K.pickK t38 t42 (.bool false) fun t45 =>
K.letK (fun (t46 : AV) (h47 : H) => K.letK (fun (t49 : AV) (h50 : H) => K.pickK t45 t49 (.bool false) fun t52 =>
K.letK (fun (t53 : AV) (h54 : H) => K.letK (fun (t56 : AV) (h57 : H) => K.pickK t52 t56 (.bool false) fun t59 =>
K.letK (fun (t60 : AV) (h61 : H) => K.letK (fun (t63 : AV) (h64 : H) => K.pickK t59 t63 (.bool false) fun t66 =>
K.letK (fun (t67 : AV) (h68 : H) => K.letK (fun (t70 : AV) (h71 : H) => K.pickK t66 t70 (.bool false) fun t73 =>
K.letK (fun (t74 : AV) (h75 : H) => K.letK (fun (t77 : AV) (h78 : H) => K.pickK t73 t77 (.bool false) fun t80 =>
K.letK (fun (t81 : AV) (h82 : H) => K.letK (fun (t84 : AV) (h85 : H) => K.pickK t80 t84 (.bool false) fun t87 =>
K.letK (fun (t88 : AV) (h89 : H) => K.letK (fun (t91 : AV) (h92 : H) => K.pickK t87 t91 (.bool false) fun t94 =>
K.letK (fun (t95 : AV) (h96 : H) => K.letK (fun (t98 : AV) (h99 : H) => K.pickK t94 t98 (.bool false) fun t101 =>
K.letK (fun (t102 : AV) (h103 : H) => K.letK (fun (t105 : AV) (h106 : H) => K.letK (fun (t108 : AV) (h109 : H) => K.letK (fun (t111 : AV) (h112 : H) => K.pickK t101 t111 (.bool false) fun t114 =>
K.unmarkK [] h112 fun h115 => .ok t114 h115) fun j113 =>
K.guK true t101 (K.eqK (K.binV ctx .eql 24 true t108 (.int .i64 (.ofNat 13))) t108 (.int .i64 (.ofNat 13)) fun t116 =>
j113 t116 h109) (j113 (.tup []) h109)) fun j110 =>
K.guK true t101 (K.callFK run 11 [t102, t105, (.str [47])] h106 fun t117 h118 =>
j110 t117 h118) (j110 (.tup []) h106)) fun j107 =>
K.guK true t101 (K.ldsK ctx 23 3 t1 h103 fun t119 =>
j107 t119 h103) (j107 (.tup []) h103)) fun j104 =>
K.guK true t101 (j104 t7 h99) (j104 (.tup []) h99)) fun j100 =>
K.guK true t94 (K.eqK (K.binV ctx .eql 3 true t95 (.int .i64 (.ofNat 2))) t95 (.int .i64 (.ofNat 2)) fun t120 =>
j100 t120 h96) (j100 (.tup []) h96)) fun j97 =>
K.guK true t94 (j97 t36 h92) (j97 (.tup []) h92)) fun j93 =>
K.guK true t87 (K.eqK (K.binV ctx .eql 24 true t88 (.int .i64 (.ofNat 0))) t88 (.int .i64 (.ofNat 0)) fun t121 =>
j93 t121 h89) (j93 (.tup []) h89)) fun j90 =>
K.guK true t87 (j90 t37 h85) (j90 (.tup []) h85)) fun j86 =>
K.guK true t80 (K.eqK (K.binV ctx .eql 24 true t81 (.int .i64 (.ofNat 0))) t81 (.int .i64 (.ofNat 0)) fun t122 =>
j86 t122 h82) (j86 (.tup []) h82)) fun j83 =>
K.guK true t80 (j83 t31 h78) (j83 (.tup []) h78)) fun j79 =>
K.guK true t73 (K.eqK (K.binV ctx .eql 24 true t74 (.int .i64 (.ofNat 0))) t74 (.int .i64 (.ofNat 0)) fun t123 =>
j79 t123 h75) (j79 (.tup []) h75)) fun j76 =>
K.guK true t73 (j76 t28 h71) (j76 (.tup []) h71)) fun j72 =>
K.guK true t66 (K.eqK (K.binV ctx .eql 24 true t67 (.int .i64 (.ofNat 12))) t67 (.int .i64 (.ofNat 12)) fun t124 =>
j72 t124 h68) (j72 (.tup []) h68)) fun j69 =>
K.guK true t66 (j69 t25 h64) (j69 (.tup []) h64)) fun j65 =>
K.guK true t59 (K.eqK (K.binV ctx .eql 24 true t60 (.int .i64 (.ofNat 0))) t60 (.int .i64 (.ofNat 0)) fun t125 =>
j65 t125 h61) (j65 (.tup []) h61)) fun j62 =>
K.guK true t59 (j62 t22 h57) (j62 (.tup []) h57)) fun j58 =>
K.guK true t52 (K.eqK (K.binV ctx .eql 3 true t53 (.int .i64 (.ofNat 3))) t53 (.int .i64 (.ofNat 3)) fun t126 =>
j58 t126 h54) (j58 (.tup []) h54)) fun j55 =>
K.guK true t52 (j55 t19 h50) (j55 (.tup []) h50)) fun j51 =>
K.guK true t45 (K.eqK (K.binV ctx .eql 24 true t46 (.int .i64 (.ofNat 0))) t46 (.int .i64 (.ofNat 0)) fun t127 =>
j51 t127 h47) (j51 (.tup []) h47)) fun j48 =>
K.guK true t45 (j48 t20 h43) (j48 (.tup []) h43)) fun j44 =>
K.guK true t38 (K.eqK (K.binV ctx .eql 3 true t39 (.int .i64 (.ofNat 2))) t39 (.int .i64 (.ofNat 2)) fun t128 =>
j44 t128 h40) (j44 (.tup []) h40)) fun j41 =>
K.guK true t38 (j41 t14 h35) (j41 (.tup []) h35)))
noncomputable def r25 : K.KRun → List AV → H → K.KR := fun run args h => K.uncons args fun t0 l1 => K.uncons l1 fun t2 l3 => K.uncons l3 fun t4 l5 => K.unnil l5 (
K.boxK t2 h fun t6 h7 =>
K.ldsK ctx 23 3 t6 h7 fun t8 =>
K.callFK run 75 [t0, t8, t4] h7 fun t9 h10 =>
K.extK t9 0 fun t11 =>
K.extK t9 1 fun t12 =>
K.extK t9 2 fun t13 =>
K.neK (K.binV ctx .neq 24 true t13 (.int .i64 (.ofNat 0))) t13 (.int .i64 (.ofNat 0)) fun t14 =>
K.iteV t14 (
K.unmarkK [] h10 fun h15 => .ok (.tup [(.int .i64 (.ofNat 0)), (.str []), t13]) h15) (
K.ldsK ctx 23 3 t6 h10 fun t16 =>
K.callFK run 76 [t0, t16, t11, t12] h10 fun t17 h18 =>
K.extK t17 0 fun t19 =>
K.extK t17 1 fun t20 =>
K.extK t17 2 fun t21 =>
K.allocK (K.zN ctx 64) (K.zT ctx 64) h18 fun t22 h23 =>
K.stsK 2 t22 t19 h23 fun h24 =>
K.eqK (K.binV ctx .eql 24 true t21 (.int .i64 (.ofNat 6))) t21 (.int .i64 (.ofNat 6)) fun t25 =>
K.iteV t25 (
K.unmarkK [] h24 fun h26 => .ok (.tup [t11, t12, (.int .i64 (.ofNat 0))]) h26) (
K.eqK (K.binV ctx .eql 24 true t21 (.int .i64 (.ofNat 0))) t21 (.int .i64 (.ofNat 0)) fun t27 =>
K.iteV t27 (
K.unmarkK [] h24 fun h28 => .ok (.tup [(.int .i64 (.ofNat 0)), (.str []), (.int .i64 (.ofNat 9))]) h28) (
K.unmarkK [] h24 fun h29 => .ok (.tup [(.int .i64 (.ofNat 0)), (.str []), t21]) h29))))
noncomputable def r26 : K.KRun → List AV → H → K.KR := fun run args h => K.uncons args fun t0 l1 => K.uncons l1 fun t2 l3 => K.unnil l3 (
K.boxK t2 h fun t4 h5 =>
K.eqK (K.binV ctx .eql 29 true t0 .nilPtr) t0 .nilPtr fun t6 =>
K.iteV t6 (
K.unmarkK [] h5 fun h7 => .ok (.tup [.nilPtr, (.int .i64 (.ofNat 2))]) h7) (
K.ldsK ctx 23 3 t4 h5 fun t8 =>
K.callFK run 77 [t8] h5 fun t9 h10 =>
K.notK t9 fun t11 =>
K.iteV t11 (
K.unmarkK [] h10 fun h12 => .ok (.tup [.nilPtr, (.int .i64 (.ofNat 1))]) h12) (
K.ldsK ctx 23 3 t4 h10 fun t13 =>
K.callFK run 78 [t0] h10 fun t14 h15 =>
K.ldsK ctx 23 3 t4 h15 fun t16 =>
K.req (AV.same t13 t16) (
K.callFK run 79 [t13] h15 fun t17 h18 =>
K.ltK (K.binV ctx .lss 3 false t14 t17) t14 t17 fun t19 =>
K.iteV t19 (
K.unmarkK [] h18 fun h20 => .ok (.tup [.nilPtr, (.int .i64 (.ofNat 8))]) h20) (
K.ldsK ctx 23 3 t4 h18 fun t21 =>
K.fldK 1 t4 fun t22 =>
K.ldK ctx 3 t22 h18 fun t23 =>
K.callFK run 81 [t21] h18 fun t24 h25 =>
K.ldK ctx 3 t22 h25 fun t26 =>
K.req (AV.same t23 t26) (
K.callFK run 80 [t0, t24, t23] h25 fun t27 h28 =>
K.extK t27 0 fun t29 =>
K.extK t27 1 fun t30 =>
K.neK (K.binV ctx .neq 24 true t30 (.int .i64 (.ofNat 0))) t30 (.int .i64 (.ofNat 0)) fun t31 =>
K.iteV t31 (
K.unmarkK [] h28 fun h32 => .ok (.tup [.nilPtr, t30]) h32) (
K.ldsK ctx 23 3 t4 h28 fun t33 =>
K.fldK 2 t4 fun t34 =>
K.ldK ctx 3 t34 h28 fun t35 =>
K.callFK run 82 [t33] h28 fun t36 h37 =>
K.ldK ctx 3 t34 h37 fun t38 =>
K.req (AV.same t35 t38) (
K.callFK run 80 [t0, t36, t35] h37 fun t39 h40 =>
K.extK t39 0 fun t41 =>
K.extK t39 1 fun t42 =>
K.neK (K.binV ctx .neq 24 true t42 (.int .i64 (.ofNat 0))) t42 (.int .i64 (.ofNat 0)) fun t43 =>
K.iteV t43 (
K.unmarkK [] h40 fun h44 => .ok (.tup [.nilPtr, t42]) h44) (
K.ldsK ctx 23 3 t4 h40 fun t45 =>
K.fldK 1 t4 fun t46 =>
K.ldK ctx 3 t46 h40 fun t47 =>
K.bldSK ctx 112 [(0, t29), (1, t47)] fun t48 =>
K.fldK 2 t4 fun t49 =>
K.ldK ctx 3 t49 h40 fun t50 =>
K.bldSK ctx 112 [(0, t41), (1, t50)] fun t51 =>
K.bldSK ctx 114 [(0, t0), (1, t45), (2, t48), (3, t51)] fun t52 =>
K.boxK t52 h40 fun t53 h54 =>
K.unmarkK [] h54 fun h55 => .ok (.tup [t53, (.int .i64 (.ofNat 0))]) h55)))))))))
noncomputable def r27 : K.KRun → List AV → H → K.KR := fun run args h => K.uncons args fun t0 l1 => K.unnil l1 (
K.eqK (K.binV ctx .eql 52 true t0 .nilPtr) t0 .nilPtr fun t2 =>
K.iteV t2 (
K.unmarkK [] h fun h3 => .ok (.tup [(.int .i64 (.ofNat 0)), (.int .i64 (.ofNat 2))]) h3) (
K.nilK t0 fun t4 =>
K.fldK 4 t4 fun t5 =>
K.ldsK ctx 112 2 t5 h fun t6 =>
K.callFK run 83 [t0, t6, .nilFunc] h fun t7 h8 =>
K.extK t7 0 fun t9 =>
K.extK t7 1 fun t10 =>
K.unmarkK [] h8 fun h11 => .ok (.tup [t9, t10]) h11))
noncomputable def r28 : K.KRun → List AV → H → K.KR := fun run args h => K.uncons args fun t0 l1 => K.unnil l1 (
K.letK (fun (l2 : List AV) (m3 : List Nat) (h4 : H) => K.unnil l2 (
K.unmarkK m3 h4 fun h6 => .ok (.int .i64 (.ofNat 0)) h6)) fun j5 =>
K.lenVK t0 fun t7 =>
K.loopV (nat_lit 1000000) (fun s11 l8 m9 h10 => K.uncons l8 fun t12 l13 => K.uncons l13 fun t14 l15 => K.uncons l15 fun t16 l17 => K.unnil l17 (
K.ltK (K.binV ctx .lss 3 false t16 t14) t16 t14 fun t18 =>
K.iteV t18 (
K.idxSK 1 t12 t16 fun t19 =>
K.ldK ctx 61 t19 h10 fun t20 =>
K.callVK run t20 [] h10 fun t21 h22 =>
K.neK (K.binV ctx .neq 24 true t21 (.int .i64 (.ofNat 0))) t21 (.int .i64 (.ofNat 0)) fun t23 =>
K.iteV t23 (
K.unmarkK m9 h22 fun h24 => .ok t21 h24) (
K.addK (K.binV ctx .add 3 true t16 (.int .i64 (.ofNat 1))) t16 (.int .i64 (.ofNat 1)) fun t25 =>
s11 [t12, t14, t25] m9 h22)) (
j5 [] m9 h10))) [t0, t7, (.int .i64 (.ofNat 0))] [] h)
noncomputable def r29 : K.KRun → List AV → H → K.KR := fun run args h => K.uncons args fun t0 l1 => K.uncons l1 fun t2 l3 => K.uncons l3 fun t4 l5 => K.uncons l5 fun t6 l7 => K.unnil l7 (
K.ldK ctx 29 t0 h fun t8 =>
K.ldsK ctx 23 3 t2 h fun t9 =>
K.ldK ctx 3 t4 h fun t10 =>
K.ldsK ctx 58 10 t6 h fun t11 =>
K.callFK run 30 [t8, t9, t10, t11] h fun t12 h13 =>
K.unmarkK [] h13 fun h14 => .ok t12 h14)
noncomputable def r30 : K.KRun → List AV → H → K.KR := fun run args h => K.uncons args fun t0 l1 => K.uncons l1 fun t2 l3 => K.uncons l3 fun t4 l5 => K.uncons l5 fun t6 l7 => K.unnil l7 (
K.boxK t2 h fun t8 h9 =>
K.boxK t6 h9 fun t10 h11 =>
K.ldsK ctx 23 3 t8 h11 fun t12 =>
K.callFK run 84 [t0, t12, t4] h11 fun t13 h14 =>
K.extK t13 0 fun t15 =>
K.extK t13 1 fun t16 =>
K.eqK (K.binV ctx .eql 24 true t16 (.int .i64 (.ofNat 2))) t16 (.int .i64 (.ofNat 2)) fun t17 =>
K.iteV t17 (
K.unmarkK [] h14 fun h18 => .ok t16 h18) (
K.ldsK ctx 23 3 t8 h14 fun t19 =>
K.ldsK ctx 58 10 t10 h14 fun t20 =>
K.callFK run 85 [t19, t20] h14 fun t21 h22 =>
K.notK t21 fun t23 =>
K.iteV t23 (
K.unmarkK [] h22 fun h24 => .ok (.int .i64 (.ofNat 1)) h24) (
K.neK (K.binV ctx .neq 24 true t16 (.int .i64 (.ofNat 0))) t16 (.int .i64 (.ofNat 0)) fun t25 =>
K.iteV t25 (
K.unmarkK [] h22 fun h26 => .ok t16 h26) (
K.ldsK ctx 58 10 t10 h22 fun t27 =>
K.callFK run 87 [t27] h22 fun t28 h29 =>
K.callFK run 86 [t0, t15, t28] h29 fun t30 h31 =>
K.unmarkK [] h31 fun h32 => .ok t30 h32))))
noncomputable def r31 : K.KRun → List AV → H → K.KR := fun run args h => K.uncons args fun t0 l1 => K.uncons l1 fun t2 l3 => K.uncons l3 fun t4 l5 => K.uncons l5 fun t6 l7 => K.uncons l7 fun t8 l9 => K.unnil l9 (
K.ldK ctx 29 t0 h fun t10 =>
K.ldsK ctx 23 3 t2 h fun t11 =>
K.ldK ctx 3 t4 h fun t12 =>
K.ldK ctx 9 t6 h fun t13 =>
K.ldK ctx 3 t8 h fun t14 =>
K.bldSK ctx 64 [(0, t13), (1, t14)] fun t15 =>
K.callFK run 32 [t10, t11, t12, t15] h fun t16 h17 =>
K.unmarkK [] h17 fun h18 => .ok t16 h18)
noncomputable def r32 : K.KRun → List AV → H → K.KR := fun run args h => K.uncons args fun t0 l1 => K.uncons l1 fun t2 l3 => K.uncons l3 fun t4 l5 => K.uncons l5 fun t6 l7 => K.unnil l7 (
K.boxK t2 h fun t8 h9 =>
K.boxK t6 h9 fun t10 h11 =>
K.ldsK ctx 23 3 t8 h11 fun t12 =>
K.ldsK ctx 64 2 t10 h11 fun t13 =>
K.callFK run 88 [t0, t12, t13] h11 fun t14 h15 =>
K.neK (K.binV ctx .neq 24 true t14 (.int .i64 (.ofNat 0))) t14 (.int .i64 (.ofNat 0)) fun t16 =>
K.iteV t16 (
K.unmarkK [] h15 fun h17 => .ok t14 h17) (
K.ldsK ctx 23 3 t8 h15 fun t18 =>
K.callFK run 89 [t0, t18, t4] h15 fun t19 h20 =>
K.extK t19 0 fun t21 =>
K.extK t19 1 fun t22 =>
K.allocK (K.zN ctx 124) (K.zT ctx 124) h20 fun t23 h24 =>
K.stsK 5 t23 t21 h24 fun h25 =>
K.neK (K.binV ctx .neq 24 true t22 (.int .i64 (.ofNat 0))) t22 (.int .i64 (.ofNat 0)) fun t26 =>
K.iteV t26 (
K.unmarkK [] h25 fun h27 => .ok t22 h27) (
K.ldsK ctx 124 5 t23 h25 fun t28 =>
K.fldK 0 t10 fun t29 =>
K.ldK ctx 9 t29 h25 fun t30 =>
K.callFK run 90 [t28, t30] h25 fun t31 h32 =>
K.extK t31 0 fun t33 =>
K.extK t31 1 fun t34 =>
K.extK t31 2 fun t35 =>
K.allocK (K.zN ctx 64) (K.zT ctx 64) h32 fun t36 h37 =>
K.stsK 2 t36 t33 h37 fun h38 =>
K.eqK (K.binV ctx .eql 24 true t35 (.int .i64 (.ofNat 0))) t35 (.int .i64 (.ofNat 0)) fun t39 =>
K.iteV t39 (
K.unmarkK [] h38 fun h40 => .ok (.int .i64 (.ofNat 9)) h40) (
K.eqK (K.binV ctx .eql 24 true t35 (.int .i64 (.ofNat 6))) t35 (.int .i64 (.ofNat 6)) fun t41 =>
K.iteV t41 (
K.ldsK ctx 124 5 t23 h38 fun t42 =>
K.ldsK ctx 64 2 t10 h38 fun t43 =>
K.callFK run 91 [t42, t43] h38 fun t44 h45 =>
K.unmarkK [] h45 fun h46 => .ok t44 h46) (
K.unmarkK [] h38 fun h47 => .ok t35 h47)))))
noncomputable def r33 : K.KRun → List AV → H → K.KR := fun run args h => K.uncons args fun t0 l1 => K.unnil l1 (
K.eqK (K.binV ctx .eql 31 true t0 .nilSlice) t0 .nilSlice fun t2 =>
K.iteV t2 (
K.unmarkK [] h fun h3 => .ok .nilSlice h3) (
K.bslK ctx 27 1 0 [] h fun t4 h5 =>
K.appK ctx 27 1 t4 t0 h5 fun t6 h7 =>
K.unmarkK [] h7 fun h8 => .ok t6 h8))
noncomputable def r34 : K.KRun → List AV → H → K.KR := fun run args h => K.uncons args fun t0 l1 => K.unnil l1 (
K.boxK t0 h fun t2 h3 =>
K.fldK 0 t2 fun t4 =>
K.ldK ctx 3 t4 h3 fun t5 =>
K.geK (K.binV ctx .geq 3 true t5 (.int .i64 (.ofNat 1))) t5 (.int .i64 (.ofNat 1)) fun t6 =>
K.letK (fun (t7 : AV) (h8 : H) => K.letK (fun (t10 : AV) (h11 : H) => K.letK (fun (t13 : AV) (h14 : H) => K.pickK t6 t13 (.bool false) fun t16 =>
K.letK (fun (t17 : AV) (h18 : H) => K.letK (fun (t20 : AV) (h21 : H) => K.letK (fun (t23 : AV) (h24 : H) => K.pickK t16 t23 (.bool false) fun t26 =>
K.letK (fun (t27 : AV) (h28 : H) => K.letK (fun (t30 : AV) (h31 : H) => K.letK (fun (t33 : AV) (h34 : H) => K.pickK t26 t33 (.bool false) fun t36 =>
K.letK (fun (t37 : AV) (h38 : H) => K.letK (fun (t40 : AV) (h41 : H) => K.letK (fun (t43 : AV) (h44 : H) => K.pickK t36 t43 (.bool false) fun t46 =>
K.letK (fun (t47 : AV) (h48 : H) => K.letK (fun (t50 : AV) (h51 : H) => K.letK (fun (t53 : AV) (h54 : H) => K.pickK t46 t53 (.bool false) fun t56 =>
K.unmarkK [] h54 fun h57 => .ok t56 h57) fun j55 =>
K.guK true t46 (K.leK (K.binV ctx .leq 3 true t50 (.int .i64 (.ofNat 512))) t50 (.int .i64 (.ofNat 512)) fun t58 =>
j55 t58 h51) (j55 (.tup []) h51)) fun j52 =>
K.guK true t46 (K.ldK ctx 3 t47 h48 fun t59 =>
j52 t59 h48) (j52 (.tup []) h48)) fun j49 =>
K.guK true t46 (K.fldK 2 t2 fun t60 =>
j49 t60 h44) (j49 (.tup []) h44)) fun j45 =>
K.guK true t36 (K.geK (K.binV ctx .geq 3 true t40 (.int .i64 (.ofNat 2))) t40 (.int .i64 (.ofNat 2)) fun t61 =>
j45 t61 h41) (j45 (.tup []) h41)) fun j42 =>
K.guK true t36 (K.ldK ctx 3 t37 h38 fun t62 =>
j42 t62 h38) (j42 (.tup []) h38)) fun j39 =>
K.guK true t36 (K.fldK 2 t2 fun t63 =>
j39 t63 h34) (j39 (.tup []) h34)) fun j35 =>
K.guK true t26 (K.leK (K.binV ctx .leq 3 true t30 (.int .i64 (.ofNat 64))) t30 (.int .i64 (.ofNat 64)) fun t64 =>
j35 t64 h31) (j35 (.tup []) h31)) fun j32 =>
K.guK true t26 (K.ldK ctx 3 t27 h28 fun t65 =>
j32 t65 h28) (j32 (.tup []) h28)) fun j29 =>
K.guK true t26 (K.fldK 1 t2 fun t66 =>
j29 t66 h24) (j29 (.tup []) h24)) fun j25 =>
K.guK true t16 (K.geK (K.binV ctx .geq 3 true t20 (.int .i64 (.ofNat 2))) t20 (.int .i64 (.ofNat 2)) fun t67 =>
j25 t67 h21) (j25 (.tup []) h21)) fun j22 =>
K.guK true t16 (K.ldK ctx 3 t17 h18 fun t68 =>
j22 t68 h18) (j22 (.tup []) h18)) fun j19 =>
K.guK true t16 (K.fldK 1 t2 fun t69 =>
j19 t69 h14) (j19 (.tup []) h14)) fun j15 =>
K.guK true t6 (K.leK (K.binV ctx .leq 3 true t10 (.int .i64 (.ofNat 4))) t10 (.int .i64 (.ofNat 4)) fun t70 =>
j15 t70 h11) (j15 (.tup []) h11)) fun j12 =>
K.guK true t6 (K.ldK ctx 3 t7 h8 fun t71 =>
j12 t71 h8) (j12 (.tup []) h8)) fun j9 =>
K.guK true t6 (K.fldK 0 t2 fun t72 =>
j9 t72 h3) (j9 (.tup []) h3))
noncomputable def r35 : K.KRun → List AV → H → K.KR := fun run args h => K.uncons args fun t0 l1 => K.unnil l1 (
K.boxK t0 h fun t2 h3 =>
K.ldsK ctx 33 3 t2 h3 fun t4 =>
K.callFK run 34 [t4] h3 fun t5 h6 =>
K.notK t5 fun t7 =>
K.iteV t7 (
K.unmarkK [] h6 fun h8 => .ok (.int .i64 (.ofNat 0)) h8) (
K.ldsK ctx 33 3 t2 h6 fun t9 =>
K.fldK 1 t2 fun t10 =>
K.ldK ctx 3 t10 h6 fun t11 =>
K.mulK (K.binV ctx .mul 3 true (.int .i64 (.ofNat 16)) t11) (.int .i64 (.ofNat 16)) t11 fun t12 =>
K.fldK 2 t2 fun t13 =>
K.ldK ctx 3 t13 h6 fun t14 =>
K.mulK (K.binV ctx .mul 3 true (.int .i64 (.ofNat 8)) t14) (.int .i64 (.ofNat 8)) t14 fun t15 =>
K.callFK run 92 [t9] h6 fun t16 h17 =>
K.ldK ctx 3 t13 h17 fun t18 =>
K.req (AV.same t14 t18) (
K.ldK ctx 3 t10 h17 fun t19 =>
K.req (AV.same t11 t19) (
K.addK (K.binV ctx .add 3 true t16 (.int .i64 (.ofNat 16))) t16 (.int .i64 (.ofNat 16)) fun t20 =>
K.addK (K.binV ctx .add 3 false t20 t12) t20 t12 fun t21 =>
K.addK (K.binV ctx .add 3 false t21 t15) t21 t15 fun t22 =>
K.unmarkK [] h17 fun h23 => .ok t22 h23))))
noncomputable def r36 : K.KRun → List AV → H → K.KR := fun run args h => K.uncons args fun t0 l1 => K.unnil l1 (
K.boxK t0 h fun t2 h3 =>
K.ldsK ctx 33 3 t2 h3 fun t4 =>
K.callFK run 34 [t4] h3 fun t5 h6 =>
K.notK t5 fun t7 =>
K.iteV t7 (
K.unmarkK [] h6 fun h8 => .ok (.int .i64 (.negSucc 0)) h8) (
K.ldsK ctx 33 3 t2 h6 fun t9 =>
K.callFK run 92 [t9] h6 fun t10 h11 =>
K.unmarkK [] h11 fun h12 => .ok t10 h12))
noncomputable def r37 : K.KRun → List AV → H → K.KR := fun run args h => K.uncons args fun t0 l1 => K.unnil l1 (
K.boxK t0 h fun t2 h3 =>
K.ldsK ctx 33 3 t2 h3 fun t4 =>
K.callFK run 34 [t4] h3 fun t5 h6 =>
K.notK t5 fun t7 =>
K.iteV t7 (
K.unmarkK [] h6 fun h8 => .ok (.int .i64 (.negSucc 0)) h8) (
K.ldsK ctx 33 3 t2 h6 fun t9 =>
K.callFK run 92 [t9] h6 fun t10 h11 =>
K.addK (K.binV ctx .add 3 true t10 (.int .i64 (.ofNat 8))) t10 (.int .i64 (.ofNat 8)) fun t12 =>
K.unmarkK [] h11 fun h13 => .ok t12 h13))
noncomputable def r38 : K.KRun → List AV → H → K.KR := fun run args h => K.uncons args fun t0 l1 => K.uncons l1 fun t2 l3 => K.unnil l3 (
K.boxK t0 h fun t4 h5 =>
K.ldsK ctx 33 3 t4 h5 fun t6 =>
K.callFK run 34 [t6] h5 fun t7 h8 =>
K.notK t7 fun t9 =>
K.letK (fun (t10 : AV) (h11 : H) => K.letK (fun (t13 : AV) (h14 : H) => K.pickK t9 (.bool true) t13 fun t16 =>
K.letK (fun (t17 : AV) (h18 : H) => K.letK (fun (t20 : AV) (h21 : H) => K.letK (fun (t23 : AV) (h24 : H) => K.letK (fun (t26 : AV) (h27 : H) => K.pickK t16 (.bool true) t26 fun t29 =>
K.iteV t29 (
K.unmarkK [] h27 fun h30 => .ok (.int .i64 (.negSucc 0)) h30) (
K.ldsK ctx 33 3 t4 h27 fun t31 =>
K.callFK run 92 [t31] h27 fun t32 h33 =>
K.addK (K.binV ctx .add 3 true t32 (.int .i64 (.ofNat 16))) t32 (.int .i64 (.ofNat 16)) fun t34 =>
K.mulK (K.binV ctx .mul 3 true (.int .i64 (.ofNat 16)) t2) (.int .i64 (.ofNat 16)) t2 fun t35 =>
K.addK (K.binV ctx .add 3 false t34 t35) t34 t35 fun t36 =>
K.unmarkK [] h33 fun h37 => .ok t36 h37)) fun j28 =>
K.guK false t16 (K.geK (K.binV ctx .geq 3 false t17 t23) t17 t23 fun t38 =>
j28 t38 h24) (j28 (.tup []) h24)) fun j25 =>
K.guK false t16 (K.ldK ctx 3 t20 h21 fun t39 =>
j25 t39 h21) (j25 (.tup []) h21)) fun j22 =>
K.guK false t16 (K.fldK 1 t4 fun t40 =>
j22 t40 h18) (j22 (.tup []) h18)) fun j19 =>
K.guK false t16 (j19 t2 h14) (j19 (.tup []) h14)) fun j15 =>
K.guK false t9 (K.ltK (K.binV ctx .lss 3 true t10 (.int .i64 (.ofNat 0))) t10 (.int .i64 (.ofNat 0)) fun t41 =>
j15 t41 h11) (j15 (.tup []) h11)) fun j12 =>
K.guK false t9 (j12 t2 h8) (j12 (.tup []) h8))
end YtpfgllikhklnoaaGreatDoorNmM
