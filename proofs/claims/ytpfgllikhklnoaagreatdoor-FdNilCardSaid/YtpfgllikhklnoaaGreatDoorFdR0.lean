/- PRINTED BY Gen2.lean (own): functions as plain texts, part 0. -/
import Derived.Test.YtpfgllikhklnoaaGreatDoorFdCtx
namespace YtpfgllikhklnoaaGreatDoorFdM
open Go Am
set_option maxRecDepth 100000
noncomputable def r5 : K.KRun → List AV → H → K.KR := fun run args h => K.uncons args fun t0 l1 => K.uncons l1 fun t2 l3 => K.uncons l3 fun t4 l5 => K.uncons l5 fun t6 l7 => K.uncons l7 fun t8 l9 => K.unnil l9 (
K.boxK t0 h fun t10 h11 =>
K.ldsK ctx 23 3 t10 h11 fun t12 =>
K.callFK run 19 [.nilPtr, t12, t2, t6] h11 fun t13 h14 =>
K.extK t13 0 fun t15 =>
K.extK t13 1 fun t16 =>
K.allocK (K.zN ctx 43) (K.zT ctx 43) h14 fun t17 h18 =>
K.stsK 2 t17 t15 h18 fun h19 =>
K.ldsK ctx 23 3 t10 h19 fun t20 =>
K.callFK run 20 [.nilPtr, t20, t2, t4] h19 fun t21 h22 =>
K.extK t21 0 fun t23 =>
K.extK t21 1 fun t24 =>
K.callFK run 7 [(.int .u8 (.ofNat 3)), (.int .u8 (.ofNat 9))] h22 fun t25 h26 =>
K.allocK (K.zN ctx 23) (K.zT ctx 23) h26 fun t27 h28 =>
K.stsK 3 t27 t25 h28 fun h29 =>
K.ldsK ctx 23 3 t27 h29 fun t30 =>
K.callFK run 9 [t30] h29 fun t31 h32 =>
K.callFK run 8 [t31] h32 fun t33 h34 =>
K.eqK (K.binV ctx .eql 29 true t33 .nilPtr) t33 .nilPtr fun t35 =>
K.iteV t35 (
K.unmarkK [] h34 fun h36 => .ok (.bool false) h36) (
K.ldsK ctx 23 3 t27 h34 fun t37 =>
K.callFK run 19 [t33, t37, (.int .i64 (.ofNat 4)), (.int .u64 (.ofNat 0))] h34 fun t38 h39 =>
K.extK t38 0 fun t40 =>
K.extK t38 1 fun t41 =>
K.allocK (K.zN ctx 43) (K.zT ctx 43) h39 fun t42 h43 =>
K.stsK 2 t42 t40 h43 fun h44 =>
K.ldsK ctx 23 3 t27 h44 fun t45 =>
K.callFK run 19 [t33, t45, (.int .i64 (.ofNat 0)), (.int .u64 (.ofNat 4))] h44 fun t46 h47 =>
K.extK t46 0 fun t48 =>
K.extK t46 1 fun t49 =>
K.allocK (K.zN ctx 43) (K.zT ctx 43) h47 fun t50 h51 =>
K.stsK 2 t50 t48 h51 fun h52 =>
K.ldsK ctx 23 3 t27 h52 fun t53 =>
K.callFK run 20 [t33, t53, (.int .i64 (.ofNat 0)), (.int .i64 (.ofNat 2))] h52 fun t54 h55 =>
K.extK t54 0 fun t56 =>
K.extK t54 1 fun t57 =>
K.eqK (K.binV ctx .eql 24 true t16 (.int .i64 (.ofNat 2))) t16 (.int .i64 (.ofNat 2)) fun t58 =>
K.letK (fun (t59 : AV) (h60 : H) => K.letK (fun (t62 : AV) (h63 : H) => K.letK (fun (t65 : AV) (h66 : H) => K.pickK t58 t65 (.bool false) fun t68 =>
K.letK (fun (t69 : AV) (h70 : H) => K.letK (fun (t72 : AV) (h73 : H) => K.pickK t68 t72 (.bool false) fun t75 =>
K.letK (fun (t76 : AV) (h77 : H) => K.letK (fun (t79 : AV) (h80 : H) => K.pickK t75 t79 (.bool false) fun t82 =>
K.letK (fun (t83 : AV) (h84 : H) => K.letK (fun (t86 : AV) (h87 : H) => K.letK (fun (t89 : AV) (h90 : H) => K.letK (fun (t92 : AV) (h93 : H) => K.letK (fun (t95 : AV) (h96 : H) => K.letK (fun (t98 : AV) (h99 : H) => K.pickK t82 t98 (.bool false) fun t101 =>
K.letK (fun (t102 : AV) (h103 : H) => K.letK (fun (t105 : AV) (h106 : H) => K.letK (fun (t108 : AV) (h109 : H) => K.letK (fun (t111 : AV) (h112 : H) => K.letK (fun (t114 : AV) (h115 : H) => K.pickK t101 t114 (.bool false) fun t117 =>
K.letK (fun (t118 : AV) (h119 : H) => K.letK (fun (t121 : AV) (h122 : H) => K.letK (fun (t124 : AV) (h125 : H) => K.letK (fun (t127 : AV) (h128 : H) => K.pickK t117 t127 (.bool false) fun t130 =>
K.letK (fun (t131 : AV) (h132 : H) => K.letK (fun (t134 : AV) (h135 : H) => K.pickK t130 t134 (.bool false) fun t137 =>
K.letK (fun (t138 : AV) (h139 : H) => K.letK (fun (t141 : AV) (h142 : H) => K.pickK t137 t141 (.bool false) fun t144 =>
K.letK (fun (t145 : AV) (h146 : H) => K.letK (fun (t148 : AV) (h149 : H) => K.pickK t144 t148 (.bool false) fun t151 =>
K.letK (fun (t152 : AV) (h153 : H) => K.letK (fun (t155 : AV) (h156 : H) => K.letK (fun (t158 : AV) (h159 : H) => K.letK (fun (t161 : AV) (h162 : H) => K.pickK t151 t161 (.bool false) fun t164 =>
K.letK (fun (t165 : AV) (h166 : H) => K.letK (fun (t168 : AV) (h169 : H) => K.letK (fun (t171 : AV) (h172 : H) => K.letK (fun (t174 : AV) (h175 : H) => K.pickK t164 t174 (.bool false) fun t177 =>
K.letK (fun (t178 : AV) (h179 : H) => K.letK (fun (t181 : AV) (h182 : H) => K.letK (fun (t184 : AV) (h185 : H) => K.letK (fun (t187 : AV) (h188 : H) => K.pickK t177 t187 (.bool false) fun t190 =>
K.letK (fun (t191 : AV) (h192 : H) => K.pickK t190 t191 (.bool false) fun t194 =>
K.unmarkK [] h192 fun h195 => .ok t194 h195) fun j193 =>
K.guK true t190 (K.callFK run 24 [] h188 fun t196 h197 =>
j193 t196 h197) (j193 (.tup []) h188)) fun j189 =>
K.guK true t177 (K.eqK (K.binV ctx .eql 3 true t184 (.int .i64 (.ofNat 0))) t184 (.int .i64 (.ofNat 0)) fun t198 =>
j189 t198 h185) (j189 (.tup []) h185)) fun j186 =>
K.guK true t177 (K.lenVK t181 fun t199 =>
j186 t199 h182) (j186 (.tup []) h182)) fun j183 =>
K.guK true t177 (K.callFK run 15 [t178] h179 fun t200 h201 =>
j183 t200 h201) (j183 (.tup []) h179)) fun j180 =>
K.guK true t177 (j180 t33 h175) (j180 (.tup []) h175)) fun j176 =>
K.guK true t164 (K.eqK (K.binV ctx .eql 24 true t171 (.int .i64 (.ofNat 0))) t171 (.int .i64 (.ofNat 0)) fun t202 =>
j176 t202 h172) (j176 (.tup []) h172)) fun j173 =>
K.guK true t164 (K.callFK run 23 [t165, t168, (.int .i64 (.ofNat 3))] h169 fun t203 h204 =>
j173 t203 h204) (j173 (.tup []) h169)) fun j170 =>
K.guK true t164 (K.ldsK ctx 23 3 t27 h166 fun t205 =>
j170 t205 h166) (j170 (.tup []) h166)) fun j167 =>
K.guK true t164 (j167 t33 h162) (j167 (.tup []) h162)) fun j163 =>
K.guK true t151 (K.eqK (K.binV ctx .eql 24 true t158 (.int .i64 (.ofNat 1))) t158 (.int .i64 (.ofNat 1)) fun t206 =>
j163 t206 h159) (j163 (.tup []) h159)) fun j160 =>
K.guK true t151 (K.callFK run 23 [t152, t155, (.int .i64 (.negSucc 0))] h156 fun t207 h208 =>
j160 t207 h208) (j160 (.tup []) h156)) fun j157 =>
K.guK true t151 (K.ldsK ctx 23 3 t27 h153 fun t209 =>
j157 t209 h153) (j157 (.tup []) h153)) fun j154 =>
K.guK true t151 (j154 t33 h149) (j154 (.tup []) h149)) fun j150 =>
K.guK true t144 (K.eqK (K.binV ctx .eql 24 true t145 (.int .i64 (.ofNat 4))) t145 (.int .i64 (.ofNat 4)) fun t210 =>
j150 t210 h146) (j150 (.tup []) h146)) fun j147 =>
K.guK true t144 (j147 t57 h142) (j147 (.tup []) h142)) fun j143 =>
K.guK true t137 (K.eqK (K.binV ctx .eql 24 true t138 (.int .i64 (.ofNat 14))) t138 (.int .i64 (.ofNat 14)) fun t211 =>
j143 t211 h139) (j143 (.tup []) h139)) fun j140 =>
K.guK true t137 (j140 t49 h135) (j140 (.tup []) h135)) fun j136 =>
K.guK true t130 (K.eqK (K.binV ctx .eql 24 true t131 (.int .i64 (.ofNat 1))) t131 (.int .i64 (.ofNat 1)) fun t212 =>
j136 t212 h132) (j136 (.tup []) h132)) fun j133 =>
K.guK true t130 (j133 t41 h128) (j133 (.tup []) h128)) fun j129 =>
K.guK true t117 (K.eqK (K.binV ctx .eql 24 true t124 (.int .i64 (.ofNat 2))) t124 (.int .i64 (.ofNat 2)) fun t213 =>
j129 t213 h125) (j129 (.tup []) h125)) fun j126 =>
K.guK true t117 (K.callFK run 23 [.nilPtr, t118, t121] h122 fun t214 h215 =>
j126 t214 h215) (j126 (.tup []) h122)) fun j123 =>
K.guK true t117 (j123 t2 h119) (j123 (.tup []) h119)) fun j120 =>
K.guK true t117 (K.ldsK ctx 23 3 t10 h115 fun t216 =>
j120 t216 h115) (j120 (.tup []) h115)) fun j116 =>
K.guK true t101 (K.eqK (K.binV ctx .eql 24 true t111 (.int .i64 (.ofNat 2))) t111 (.int .i64 (.ofNat 2)) fun t217 =>
j116 t217 h112) (j116 (.tup []) h112)) fun j113 =>
K.guK true t101 (K.callFK run 22 [.nilPtr, t102, t105, t108] h109 fun t218 h219 =>
j113 t218 h219) (j113 (.tup []) h109)) fun j110 =>
K.guK true t101 (j110 t6 h106) (j110 (.tup []) h106)) fun j107 =>
K.guK true t101 (j107 t2 h103) (j107 (.tup []) h103)) fun j104 =>
K.guK true t101 (K.ldsK ctx 23 3 t10 h99 fun t220 =>
j104 t220 h99) (j104 (.tup []) h99)) fun j100 =>
K.guK true t82 (K.eqK (K.binV ctx .eql 24 true t95 (.int .i64 (.ofNat 2))) t95 (.int .i64 (.ofNat 2)) fun t221 =>
j100 t221 h96) (j100 (.tup []) h96)) fun j97 =>
K.guK true t82 (K.callFK run 21 [.nilPtr, t83, t86, t89, t92] h93 fun t222 h223 =>
j97 t222 h223) (j97 (.tup []) h93)) fun j94 =>
K.guK true t82 (j94 t8 h90) (j94 (.tup []) h90)) fun j91 =>
K.guK true t82 (j91 t6 h87) (j91 (.tup []) h87)) fun j88 =>
K.guK true t82 (j88 t2 h84) (j88 (.tup []) h84)) fun j85 =>
K.guK true t82 (K.ldsK ctx 23 3 t10 h80 fun t224 =>
j85 t224 h80) (j85 (.tup []) h80)) fun j81 =>
K.guK true t75 (K.eqK (K.binV ctx .eql 3 true t76 (.int .i64 (.ofNat 0))) t76 (.int .i64 (.ofNat 0)) fun t225 =>
j81 t225 h77) (j81 (.tup []) h77)) fun j78 =>
K.guK true t75 (j78 t23 h73) (j78 (.tup []) h73)) fun j74 =>
K.guK true t68 (K.eqK (K.binV ctx .eql 24 true t69 (.int .i64 (.ofNat 2))) t69 (.int .i64 (.ofNat 2)) fun t226 =>
j74 t226 h70) (j74 (.tup []) h70)) fun j71 =>
K.guK true t68 (j71 t24 h66) (j71 (.tup []) h66)) fun j67 =>
K.guK true t58 (K.eqK (K.binV ctx .eql 43 false t59 t62) t59 t62 fun t227 =>
j67 t227 h63) (j67 (.tup []) h63)) fun j64 =>
K.guK true t58 (K.bldSK ctx 43 [] fun t228 =>
j64 t228 h60) (j64 (.tup []) h60)) fun j61 =>
K.guK true t58 (K.ldsK ctx 43 2 t17 h55 fun t229 =>
j61 t229 h55) (j61 (.tup []) h55)))
noncomputable def r6 : K.KRun → List AV → H → K.KR := fun run args h => K.uncons args fun t0 l1 => K.uncons l1 fun t2 l3 => K.uncons l3 fun t4 l5 => K.uncons l5 fun t6 l7 => K.unnil l7 (
K.boxK t0 h fun t8 h9 =>
K.boxK t2 h9 fun t10 h11 =>
K.ldK ctx 29 t8 h11 fun t12 =>
K.eqK (K.binV ctx .eql 29 true t12 .nilPtr) t12 .nilPtr fun t13 =>
K.iteV t13 (
K.unmarkK [] h11 fun h14 => .ok (.tup [(.int .i64 (.ofNat 0)), (.int .i64 (.ofNat 2))]) h14) (
K.neK (K.binV ctx .neq 27 true t6 (.int .u64 (.ofNat 1))) t6 (.int .u64 (.ofNat 1)) fun t15 =>
K.letK (fun (t16 : AV) (h17 : H) => K.letK (fun (t19 : AV) (h20 : H) => K.pickK t15 t19 (.bool false) fun t22 =>
K.iteV t22 (
K.unmarkK [] h20 fun h23 => .ok (.tup [(.int .i64 (.ofNat 0)), (.int .i64 (.ofNat 1))]) h23) (
K.ldK ctx 29 t8 h20 fun t24 =>
K.ldsK ctx 23 3 t10 h20 fun t25 =>
K.callFK run 25 [t24, t25, t4] h20 fun t26 h27 =>
K.extK t26 0 fun t28 =>
K.extK t26 1 fun t29 =>
K.extK t26 2 fun t30 =>
K.allocK (K.zN ctx 3) (K.zT ctx 3) h27 fun t31 h32 =>
K.allocK (K.zN ctx 9) (K.zT ctx 9) h32 fun t33 h34 =>
K.stK t31 t28 h34 fun h35 =>
K.stK t33 t29 h35 fun h36 =>
K.neK (K.binV ctx .neq 24 true t30 (.int .i64 (.ofNat 0))) t30 (.int .i64 (.ofNat 0)) fun t37 =>
K.iteV t37 (
K.unmarkK [] h36 fun h38 => .ok (.tup [(.int .i64 (.ofNat 0)), t30]) h38) (
K.ldK ctx 29 t8 h36 fun t39 =>
K.ldsK ctx 23 3 t10 h36 fun t40 =>
K.callFK run 26 [t39, t40] h36 fun t41 h42 =>
K.extK t41 0 fun t43 =>
K.extK t41 1 fun t44 =>
K.neK (K.binV ctx .neq 24 true t44 (.int .i64 (.ofNat 0))) t44 (.int .i64 (.ofNat 0)) fun t45 =>
K.iteV t45 (
K.unmarkK [] h42 fun h46 => .ok (.tup [(.int .i64 (.ofNat 0)), t44]) h46) (
K.callFK run 27 [t43] h42 fun t47 h48 =>
K.extK t47 0 fun t49 =>
K.extK t47 1 fun t50 =>
K.allocK (K.zN ctx 3) (K.zT ctx 3) h48 fun t51 h52 =>
K.stK t51 t49 h52 fun h53 =>
K.neK (K.binV ctx .neq 24 true t50 (.int .i64 (.ofNat 0))) t50 (.int .i64 (.ofNat 0)) fun t54 =>
K.iteV t54 (
K.unmarkK [] h53 fun h55 => .ok (.tup [(.int .i64 (.ofNat 0)), t50]) h55) (
K.bldSK ctx 58 [(0, t6), (1, (.int .u64 (.ofNat 1)))] fun t56 =>
K.allocK (K.zN ctx 58) (K.zT ctx 58) h53 fun t57 h58 =>
K.stsK 10 t57 t56 h58 fun h59 =>
K.letK (fun (l60 : List AV) (m61 : List Nat) (h62 : H) => K.uncons l60 fun t64 l65 => K.uncons l65 fun t66 l67 => K.uncons l67 fun t68 l69 => K.uncons l69 fun t70 l71 => K.uncons l71 fun t72 l73 => K.uncons l73 fun t74 l75 => K.unnil l75 (
K.bslK ctx 61 1 2 [(0, (.func (.func 29) [] [t64, t66, t72, t74])), (1, (.func (.func 31) [] [t64, t66, t68, t70, t72]))] h62 fun t76 h77 =>
K.callFK run 28 [t76] h77 fun t78 h79 =>
K.neK (K.binV ctx .neq 24 true t78 (.int .i64 (.ofNat 0))) t78 (.int .i64 (.ofNat 0)) fun t80 =>
K.iteV t80 (
K.unmarkK m61 h79 fun h81 => .ok (.tup [(.int .i64 (.ofNat 0)), t78]) h81) (
K.ldK ctx 3 t72 h79 fun t82 =>
K.unmarkK m61 h79 fun h83 => .ok (.tup [t82, (.int .i64 (.ofNat 0))]) h83))) fun j63 =>
K.eqK (K.binV ctx .eql 27 true t6 (.int .u64 (.ofNat 2))) t6 (.int .u64 (.ofNat 2)) fun t84 =>
K.iteV t84 (
K.ldK ctx 3 t31 h59 fun t85 =>
K.rK (convA ctx 3 27 t85 h59) fun t86 h87 =>
K.fldK 9 t57 fun t88 =>
K.stK t88 t86 h87 fun h89 =>
j63 [t8, t10, t31, t33, t51, t57] [] h89) (
j63 [t8, t10, t31, t33, t51, t57] [] h59)))))) fun j21 =>
K.guK true t15 (K.neK (K.binV ctx .neq 27 true t16 (.int .u64 (.ofNat 2))) t16 (.int .u64 (.ofNat 2)) fun t90 =>
j21 t90 h17) (j21 (.tup []) h17)) fun j18 =>
K.guK true t15 (j18 t6 h11) (j18 (.tup []) h11)))
noncomputable def r7 : K.KRun → List AV → H → K.KR := fun run args h => K.uncons args fun t0 l1 => K.uncons l1 fun t2 l3 => K.unnil l3 (
K.allocK (K.zN ctx 23) (K.zT ctx 23) h fun t4 h5 =>
K.rK (convA ctx 5 3 t0 h5) fun t6 h7 =>
K.oK (K.binV ctx .rem 3 true t6 (.int .i64 (.ofNat 20))) fun t8 =>
K.addK (K.binV ctx .add 3 true (.int .i64 (.ofNat 2)) t8) (.int .i64 (.ofNat 2)) t8 fun t9 =>
K.rK (convA ctx 5 3 t2 h7) fun t10 h11 =>
K.oK (K.binV ctx .rem 3 true t10 (.int .i64 (.ofNat 60))) fun t12 =>
K.addK (K.binV ctx .add 3 true (.int .i64 (.ofNat 2)) t12) (.int .i64 (.ofNat 2)) t12 fun t13 =>
K.bldSK ctx 23 [(0, (.int .i64 (.ofNat 1))), (1, t9), (2, t13)] fun t14 =>
K.stsK 3 t4 t14 h11 fun h15 =>
K.unmarkK [] h15 fun h16 => K.asPtr t4 fun n17 n18 => K.loads h16 n17 n18 3 fun t19 => .ok (.agg t19) h16)
noncomputable def r8 : K.KRun → List AV → H → K.KR := fun run args h => K.uncons args fun t0 l1 => K.unnil l1 (
K.callFK run 33 [t0] h fun t2 h3 =>
K.slowK ctx run (K.opAt Go.Proofs.Tryz.f8 1 2) [] [] h3 fun t4 h5 =>
K.bldSK ctx 69 [(0, t2), (1, t4)] fun t6 =>
K.boxK t6 h5 fun t7 h8 =>
K.unmarkK [] h8 fun h9 => .ok t7 h9)
noncomputable def r9 : K.KRun → List AV → H → K.KR := fun run args h => K.uncons args fun t0 l1 => K.unnil l1 (
K.boxK t0 h fun t2 h3 =>
K.ldsK ctx 33 3 t2 h3 fun t4 =>
K.callFK run 34 [t4] h3 fun t5 h6 =>
K.notK t5 fun t7 =>
K.iteV t7 (
K.unmarkK [] h6 fun h8 => .ok .nilSlice h8) (
K.ldsK ctx 33 3 t2 h6 fun t9 =>
K.callFK run 35 [t9] h6 fun t10 h11 =>
K.mslK ctx 27 1 t10 t10 h11 fun t12 h13 =>
K.idxSK 1 t12 (.int .i64 (.ofNat 0)) fun t14 =>
K.stK t14 (.int .u64 (.ofNat 32762617960297063)) h13 fun h15 =>
K.fldK 0 t2 fun t16 =>
K.ldK ctx 3 t16 h15 fun t17 =>
K.rK (convA ctx 3 27 t17 h15) fun t18 h19 =>
K.idxSK 1 t12 (.int .i64 (.ofNat 1)) fun t20 =>
K.stK t20 t18 h19 fun h21 =>
K.fldK 1 t2 fun t22 =>
K.ldK ctx 3 t22 h21 fun t23 =>
K.rK (convA ctx 3 27 t23 h21) fun t24 h25 =>
K.idxSK 1 t12 (.int .i64 (.ofNat 2)) fun t26 =>
K.stK t26 t24 h25 fun h27 =>
K.fldK 2 t2 fun t28 =>
K.ldK ctx 3 t28 h27 fun t29 =>
K.rK (convA ctx 3 27 t29 h27) fun t30 h31 =>
K.idxSK 1 t12 (.int .i64 (.ofNat 3)) fun t32 =>
K.stK t32 t30 h31 fun h33 =>
K.ldsK ctx 33 3 t2 h33 fun t34 =>
K.callFK run 36 [t34] h33 fun t35 h36 =>
K.idxSK 1 t12 t35 fun t37 =>
K.stK t37 (.int .u64 (.ofNat 3)) h36 fun h38 =>
K.ldsK ctx 33 3 t2 h38 fun t39 =>
K.callFK run 37 [t39] h38 fun t40 h41 =>
K.idxSK 1 t12 t40 fun t42 =>
K.stK t42 (.int .u64 (.ofNat 1)) h41 fun h43 =>
K.ldsK ctx 33 3 t2 h43 fun t44 =>
K.callFK run 38 [t44, (.int .i64 (.ofNat 1))] h43 fun t45 h46 =>
K.idxSK 1 t12 t45 fun t47 =>
K.stK t47 (.int .u64 (.ofNat 2)) h46 fun h48 =>
K.ldsK ctx 33 3 t2 h48 fun t49 =>
K.callFK run 38 [t49, (.int .i64 (.ofNat 1))] h48 fun t50 h51 =>
K.addK (K.binV ctx .add 3 true t50 (.int .i64 (.ofNat 1))) t50 (.int .i64 (.ofNat 1)) fun t52 =>
K.idxSK 1 t12 t52 fun t53 =>
K.stK t53 (.int .u64 (.ofNat 1)) h51 fun h54 =>
K.unmarkK [] h54 fun h55 => .ok t12 h55))
noncomputable def r11 : K.KRun → List AV → H → K.KR := fun run args h => K.uncons args fun t0 l1 => K.uncons l1 fun t2 l3 => K.uncons l3 fun t4 l5 => K.unnil l5 (
K.boxK t2 h fun t6 h7 =>
K.ldsK ctx 23 3 t6 h7 fun t8 =>
K.bldSK ctx 80 [(0, t0), (1, t8), (2, (.func (.func 45) [] []))] fun t9 =>
K.callFK run 46 [t9, t4] h7 fun t10 h11 =>
K.unmarkK [] h11 fun h12 => .ok t10 h12)
noncomputable def r13 : K.KRun → List AV → H → K.KR := fun run args h => K.uncons args fun t0 l1 => K.uncons l1 fun t2 l3 => K.uncons l3 fun t4 l5 => K.unnil l5 (
K.boxK t0 h fun t6 h7 =>
K.boxK t2 h7 fun t8 h9 =>
K.boxK t4 h9 fun t10 h11 =>
K.ldK ctx 29 t6 h11 fun t12 =>
K.ldsK ctx 23 3 t8 h11 fun t13 =>
K.ldK ctx 3 t10 h11 fun t14 =>
K.callFK run 40 [t12, t13, t14] h11 fun t15 h16 =>
K.extK t15 0 fun t17 =>
K.extK t15 1 fun t18 =>
K.allocK (K.zN ctx 58) (K.zT ctx 58) h16 fun t19 h20 =>
K.stsK 10 t19 t17 h20 fun h21 =>
K.letK (fun (l22 : List AV) (m23 : List Nat) (h24 : H) => K.uncons l22 fun t26 l27 => K.uncons l27 fun t28 l29 => K.uncons l29 fun t30 l31 => K.uncons l31 fun t32 l33 => K.uncons l33 fun t34 l35 => K.unnil l35 (
K.neK (K.binV ctx .neq 24 true t34 (.int .i64 (.ofNat 0))) t34 (.int .i64 (.ofNat 0)) fun t36 =>
K.iteV t36 (
K.unmarkK m23 h24 fun h37 => .ok t34 h37) (
K.bslK ctx 61 1 2 [(0, (.func (.func 49) [] [t26, t28, t30, t32])), (1, (.func (.func 50) [] [t26, t28, t30]))] h24 fun t38 h39 =>
K.callFK run 28 [t38] h39 fun t40 h41 =>
K.unmarkK m23 h41 fun h42 => .ok t40 h42))) fun j25 =>
K.eqK (K.binV ctx .eql 24 true t18 (.int .i64 (.ofNat 0))) t18 (.int .i64 (.ofNat 0)) fun t43 =>
K.letK (fun (t44 : AV) (h45 : H) => K.letK (fun (t47 : AV) (h48 : H) => K.letK (fun (t50 : AV) (h51 : H) => K.pickK t43 t50 (.bool false) fun t53 =>
K.iteV t53 (
j25 [t6, t8, t10, t19, (.int .i64 (.ofNat 4))] [] h51) (
j25 [t6, t8, t10, t19, t18] [] h51)) fun j52 =>
K.guK true t43 (K.eqK (K.binV ctx .eql 27 true t47 (.int .u64 (.ofNat 0))) t47 (.int .u64 (.ofNat 0)) fun t54 =>
j52 t54 h48) (j52 (.tup []) h48)) fun j49 =>
K.guK true t43 (K.ldK ctx 27 t44 h45 fun t55 =>
j49 t55 h45) (j49 (.tup []) h45)) fun j46 =>
K.guK true t43 (K.fldK 1 t19 fun t56 =>
j46 t56 h21) (j46 (.tup []) h21))
noncomputable def r14 : K.KRun → List AV → H → K.KR := fun run args h => K.uncons args fun t0 l1 => K.uncons l1 fun t2 l3 => K.uncons l3 fun t4 l5 => K.unnil l5 (
K.boxK t0 h fun t6 h7 =>
K.boxK t2 h7 fun t8 h9 =>
K.boxK t4 h9 fun t10 h11 =>
K.ldK ctx 29 t6 h11 fun t12 =>
K.ldsK ctx 23 3 t8 h11 fun t13 =>
K.ldK ctx 3 t10 h11 fun t14 =>
K.callFK run 40 [t12, t13, t14] h11 fun t15 h16 =>
K.extK t15 0 fun t17 =>
K.extK t15 1 fun t18 =>
K.allocK (K.zN ctx 58) (K.zT ctx 58) h16 fun t19 h20 =>
K.stsK 10 t19 t17 h20 fun h21 =>
K.neK (K.binV ctx .neq 24 true t18 (.int .i64 (.ofNat 0))) t18 (.int .i64 (.ofNat 0)) fun t22 =>
K.letK (fun (t23 : AV) (h24 : H) => K.letK (fun (t26 : AV) (h27 : H) => K.letK (fun (t29 : AV) (h30 : H) => K.pickK t22 (.bool true) t29 fun t32 =>
K.letK (fun (t33 : AV) (h34 : H) => K.letK (fun (t36 : AV) (h37 : H) => K.letK (fun (t39 : AV) (h40 : H) => K.pickK t32 (.bool true) t39 fun t42 =>
K.iteV t42 (
K.unmarkK [] h40 fun h43 => .ok t18 h43) (
K.ldK ctx 29 t6 h40 fun t44 =>
K.ldsK ctx 23 3 t8 h40 fun t45 =>
K.ldK ctx 3 t10 h40 fun t46 =>
K.callFK run 51 [t44, t45, t46] h40 fun t47 h48 =>
K.extK t47 0 fun t49 =>
K.extK t47 1 fun t50 =>
K.allocK (K.zN ctx 85) (K.zT ctx 85) h48 fun t51 h52 =>
K.stK t51 t49 h52 fun h53 =>
K.neK (K.binV ctx .neq 24 true t50 (.int .i64 (.ofNat 0))) t50 (.int .i64 (.ofNat 0)) fun t54 =>
K.iteV t54 (
K.unmarkK [] h53 fun h55 => .ok t50 h55) (
K.bslK ctx 61 1 3 [(0, (.func (.func 52) [] [t51])), (1, (.func (.func 54) [] [t6, t8, t10])), (2, (.func (.func 56) [] [t6, t8, t10]))] h53 fun t56 h57 =>
K.callFK run 28 [t56] h57 fun t58 h59 =>
K.unmarkK [] h59 fun h60 => .ok t58 h60))) fun j41 =>
K.guK false t32 (K.gtK (K.binV ctx .gtr 27 true t36 (.int .u64 (.ofNat 0))) t36 (.int .u64 (.ofNat 0)) fun t61 =>
j41 t61 h37) (j41 (.tup []) h37)) fun j38 =>
K.guK false t32 (K.ldK ctx 27 t33 h34 fun t62 =>
j38 t62 h34) (j38 (.tup []) h34)) fun j35 =>
K.guK false t32 (K.fldK 2 t19 fun t63 =>
j35 t63 h30) (j35 (.tup []) h30)) fun j31 =>
K.guK false t22 (K.gtK (K.binV ctx .gtr 27 true t26 (.int .u64 (.ofNat 0))) t26 (.int .u64 (.ofNat 0)) fun t64 =>
j31 t64 h27) (j31 (.tup []) h27)) fun j28 =>
K.guK false t22 (K.ldK ctx 27 t23 h24 fun t65 =>
j28 t65 h24) (j28 (.tup []) h24)) fun j25 =>
K.guK false t22 (K.fldK 1 t19 fun t66 =>
j25 t66 h21) (j25 (.tup []) h21))
noncomputable def r15 : K.KRun → List AV → H → K.KR := fun run args h => K.uncons args fun t0 l1 => K.unnil l1 (
K.eqK (K.binV ctx .eql 29 true t0 .nilPtr) t0 .nilPtr fun t2 =>
K.iteV t2 (
K.unmarkK [] h fun h3 => .ok .nilSlice h3) (
K.letK (fun (l4 : List AV) (m5 : List Nat) (h6 : H) => K.uncons l4 fun t8 l9 => K.unnil l9 (
K.unmarkK m5 h6 fun h10 => .ok t8 h10)) fun j7 =>
K.nilK t0 fun t11 =>
K.fldK 2 t11 fun t12 =>
K.ldK ctx 67 t12 h fun t13 =>
K.lenVK t13 fun t14 =>
K.loopV (nat_lit 1000000) (fun s18 l15 m16 h17 => K.uncons l15 fun t19 l20 => K.uncons l20 fun t21 l22 => K.uncons l22 fun t23 l24 => K.uncons l24 fun t25 l26 => K.uncons l26 fun t27 l28 => K.unnil l28 (
K.ltK (K.binV ctx .lss 3 false t27 t25) t27 t25 fun t29 =>
K.iteV t29 (
K.idxSK 1 t23 t27 fun t30 =>
K.ldK ctx 3 t30 h17 fun t31 =>
K.nilK t19 fun t32 =>
K.fldK 1 t32 fun t33 =>
K.ldK ctx 66 t33 h17 fun t34 =>
K.slowK ctx run (K.opAt Go.Proofs.Tryz.f15 6 7) [21, 22] [t34, t31] h17 fun t35 h36 =>
K.bldSK ctx 90 [(0, t31), (1, t35)] fun t37 =>
K.bslK ctx 90 2 1 [(0, t37)] h36 fun t38 h39 =>
K.appK ctx 90 2 t21 t38 h39 fun t40 h41 =>
K.addK (K.binV ctx .add 3 true t27 (.int .i64 (.ofNat 1))) t27 (.int .i64 (.ofNat 1)) fun t42 =>
s18 [t19, t40, t23, t25, t42] m16 h41) (
j7 [t21] m16 h17))) [t0, .nilSlice, t13, t14, (.int .i64 (.ofNat 0))] [] h))
noncomputable def r19 : K.KRun → List AV → H → K.KR := fun run args h => K.uncons args fun t0 l1 => K.uncons l1 fun t2 l3 => K.uncons l3 fun t4 l5 => K.uncons l5 fun t6 l7 => K.unnil l7 (
K.boxK t2 h fun t8 h9 =>
K.allocK (K.zN ctx 43) (K.zT ctx 43) h9 fun t10 h11 =>
K.ldsK ctx 23 3 t8 h11 fun t12 =>
K.callFK run 70 [t0, t12, t4] h11 fun t13 h14 =>
K.neK (K.binV ctx .neq 24 true t13 (.int .i64 (.ofNat 0))) t13 (.int .i64 (.ofNat 0)) fun t15 =>
K.iteV t15 (
K.bldSK ctx 43 [] fun t16 =>
K.stsK 2 t10 t16 h14 fun h17 =>
K.unmarkK [] h17 fun h18 => K.asPtr t10 fun n19 n20 => K.loads h18 n19 n20 2 fun t21 => .ok (.tup [(.agg t21), t13]) h18) (
K.geK (K.binV ctx .geq 27 true t6 (.int .u64 (.ofNat 4))) t6 (.int .u64 (.ofNat 4)) fun t22 =>
K.iteV t22 (
K.bldSK ctx 43 [] fun t23 =>
K.stsK 2 t10 t23 h14 fun h24 =>
K.unmarkK [] h24 fun h25 => K.asPtr t10 fun n26 n27 => K.loads h25 n26 n27 2 fun t28 => .ok (.tup [(.agg t28), (.int .i64 (.ofNat 14))]) h25) (
K.rK (convA ctx 27 3 t6 h14) fun t29 h30 =>
K.callFK run 71 [t4, t29] h30 fun t31 h32 =>
K.callFK run 72 [t0, t31] h32 fun t33 h34 =>
K.addK (K.binV ctx .add 3 true t31 (.int .i64 (.ofNat 1))) t31 (.int .i64 (.ofNat 1)) fun t35 =>
K.callFK run 72 [t0, t35] h34 fun t36 h37 =>
K.eqK (K.binV ctx .eql 27 true t33 (.int .u64 (.ofNat 0))) t33 (.int .u64 (.ofNat 0)) fun t38 =>
K.iteV t38 (
K.bldSK ctx 43 [] fun t39 =>
K.stsK 2 t10 t39 h37 fun h40 =>
K.unmarkK [] h40 fun h41 => K.asPtr t10 fun n42 n43 => K.loads h41 n42 n43 2 fun t44 => .ok (.tup [(.agg t44), (.int .i64 (.ofNat 14))]) h41) (
K.letK (fun (l45 : List AV) (m46 : List Nat) (h47 : H) => K.uncons l45 fun t49 l50 => K.uncons l50 fun t51 l52 => K.uncons l52 fun t53 l54 => K.uncons l54 fun t55 l56 => K.unnil l56 (
K.iteV t55 (
K.bldSK ctx 43 [] fun t57 =>
K.stsK 2 t49 t57 h47 fun h58 =>
K.unmarkK m46 h58 fun h59 => K.asPtr t49 fun n60 n61 => K.loads h59 n60 n61 2 fun t62 => .ok (.tup [(.agg t62), (.int .i64 (.ofNat 4))]) h59) (
K.rK (convA ctx 27 3 t51 h47) fun t63 h64 =>
K.bldSK ctx 43 [(0, t63), (1, t53)] fun t65 =>
K.stsK 2 t49 t65 h64 fun h66 =>
K.unmarkK m46 h66 fun h67 => K.asPtr t49 fun n68 n69 => K.loads h67 n68 n69 2 fun t70 => .ok (.tup [(.agg t70), (.int .i64 (.ofNat 0))]) h67))) fun j48 =>
K.fldK 1 t8 fun t71 =>
K.ldK ctx 3 t71 h37 fun t72 =>
K.rK (convA ctx 3 27 t72 h37) fun t73 h74 =>
K.geK (K.binV ctx .geq 27 false t33 t73) t33 t73 fun t75 =>
K.iteV t75 (
j48 [t10, t33, t36, t75] [] h74) (
K.gtK (K.binV ctx .gtr 27 true t36 (.int .u64 (.ofNat 768))) t36 (.int .u64 (.ofNat 768)) fun t76 =>
j48 [t10, t33, t36, t76] [] h74)))))
noncomputable def r20 : K.KRun → List AV → H → K.KR := fun run args h => K.uncons args fun t0 l1 => K.uncons l1 fun t2 l3 => K.uncons l3 fun t4 l5 => K.uncons l5 fun t6 l7 => K.unnil l7 (
K.boxK t0 h fun t8 h9 =>
K.boxK t2 h9 fun t10 h11 =>
K.boxK t4 h11 fun t12 h13 =>
K.boxK t6 h13 fun t14 h15 =>
K.allocK (K.zN ctx 3) (K.zT ctx 3) h15 fun t16 h17 =>
K.allocK (K.zN ctx 24) (K.zT ctx 24) h17 fun t18 h19 =>
K.ldK ctx 29 t8 h19 fun t20 =>
K.ldsK ctx 23 3 t10 h19 fun t21 =>
K.ldK ctx 3 t12 h19 fun t22 =>
K.callFK run 70 [t20, t21, t22] h19 fun t23 h24 =>
K.neK (K.binV ctx .neq 24 true t23 (.int .i64 (.ofNat 0))) t23 (.int .i64 (.ofNat 0)) fun t25 =>
K.iteV t25 (
K.stK t16 (.int .i64 (.ofNat 0)) h24 fun h26 =>
K.stK t18 t23 h26 fun h27 =>
K.unmarkK [] h27 fun h28 => K.asPtr t16 fun n29 n30 => K.load1 h28 n29 n30 fun t31 => K.asPtr t18 fun n32 n33 => K.load1 h28 n32 n33 fun t34 => .ok (.tup [t31, t34]) h28) (
K.ldK ctx 29 t8 h24 fun t35 =>
K.ldsK ctx 23 3 t10 h24 fun t36 =>
K.ldK ctx 3 t14 h24 fun t37 =>
K.callFK run 40 [t35, t36, t37] h24 fun t38 h39 =>
K.extK t38 0 fun t40 =>
K.extK t38 1 fun t41 =>
K.allocK (K.zN ctx 58) (K.zT ctx 58) h39 fun t42 h43 =>
K.stsK 10 t42 t40 h43 fun h44 =>
K.neK (K.binV ctx .neq 24 true t41 (.int .i64 (.ofNat 0))) t41 (.int .i64 (.ofNat 0)) fun t45 =>
K.iteV t45 (
K.stK t16 (.int .i64 (.ofNat 0)) h44 fun h46 =>
K.stK t18 t41 h46 fun h47 =>
K.unmarkK [] h47 fun h48 => K.asPtr t16 fun n49 n50 => K.load1 h48 n49 n50 fun t51 => K.asPtr t18 fun n52 n53 => K.load1 h48 n52 n53 fun t54 => .ok (.tup [t51, t54]) h48) (
K.fldK 0 t42 fun t55 =>
K.ldK ctx 27 t55 h44 fun t56 =>
K.eqK (K.binV ctx .eql 27 true t56 (.int .u64 (.ofNat 2))) t56 (.int .u64 (.ofNat 2)) fun t57 =>
K.iteV t57 (
K.stK t16 (.int .i64 (.ofNat 0)) h44 fun h58 =>
K.stK t18 (.int .i64 (.ofNat 11)) h58 fun h59 =>
K.unmarkK [] h59 fun h60 => K.asPtr t16 fun n61 n62 => K.load1 h60 n61 n62 fun t63 => K.asPtr t18 fun n64 n65 => K.load1 h60 n64 n65 fun t66 => .ok (.tup [t63, t66]) h60) (
K.letK (fun (l67 : List AV) (m68 : List Nat) (h69 : H) => K.uncons l67 fun t71 l72 => K.uncons l72 fun t73 l74 => K.unnil l74 (
K.stK t71 (.int .i64 (.ofNat 0)) h69 fun h75 =>
K.stK t73 (.int .i64 (.ofNat 15)) h75 fun h76 =>
K.unmarkK m68 h76 fun h77 => K.asPtr t71 fun n78 n79 => K.load1 h77 n78 n79 fun t80 => K.asPtr t73 fun n81 n82 => K.load1 h77 n81 n82 fun t83 => .ok (.tup [t80, t83]) h77)) fun j70 =>
K.ldK ctx 29 t8 h44 fun t84 =>
K.ldK ctx 3 t12 h44 fun t85 =>
K.callFK run 73 [t84, t85] h44 fun t86 h87 =>
K.hNew h87 .marks fun r88 h89 => K.hNew h89 (.loop .ready none (K.mkT [4, 5, 6, 7, 8, 9, 11, 40] [t8, t10, t12, t14, t16, t18, t42, t86]) 1 r88) fun n90 h91 =>
K.rngK ctx run t86 n90 h91 (fun h93 => j70 [t16, t18] (r88 :: []) h93) (fun h94 => K.unmarkK (r88 :: []) h94 fun h97 => K.asPtr t16 fun n98 n99 => K.load1 h97 n98 n99 fun t100 => K.asPtr t18 fun n101 n102 => K.load1 h97 n101 n102 fun t103 => .ok (.tup [t100, t103]) h97) fun i92 h95 => (Bool.rec (motive := fun _ => K.KR) (.bad) (j70 [t16, t18] (r88 :: []) h95) (Nat.beq i92 1))))))
noncomputable def r21 : K.KRun → List AV → H → K.KR := fun run args h => K.uncons args fun t0 l1 => K.uncons l1 fun t2 l3 => K.uncons l3 fun t4 l5 => K.uncons l5 fun t6 l7 => K.uncons l7 fun t8 l9 => K.unnil l9 (
K.boxK t2 h fun t10 h11 =>
K.ldsK ctx 23 3 t10 h11 fun t12 =>
K.callFK run 19 [t0, t12, t4, t6] h11 fun t13 h14 =>
K.extK t13 0 fun t15 =>
K.extK t13 1 fun t16 =>
K.allocK (K.zN ctx 43) (K.zT ctx 43) h14 fun t17 h18 =>
K.stsK 2 t17 t15 h18 fun h19 =>
K.neK (K.binV ctx .neq 24 true t16 (.int .i64 (.ofNat 0))) t16 (.int .i64 (.ofNat 0)) fun t20 =>
K.iteV t20 (
K.unmarkK [] h19 fun h21 => .ok t16 h21) (
K.gtK (K.binV ctx .gtr 27 true t8 (.int .u64 (.ofNat 768))) t8 (.int .u64 (.ofNat 768)) fun t22 =>
K.iteV t22 (
K.unmarkK [] h19 fun h23 => .ok (.int .i64 (.ofNat 8)) h23) (
K.ldsK ctx 43 2 t17 h19 fun t24 =>
K.fldK 0 t17 fun t25 =>
K.ldK ctx 3 t25 h19 fun t26 =>
K.bldSK ctx 43 [(0, t26), (1, t8)] fun t27 =>
K.eqK (K.binV ctx .eql 43 false t24 t27) t24 t27 fun t28 =>
K.iteV t28 (
K.unmarkK [] h19 fun h29 => .ok (.int .i64 (.ofNat 0)) h29) (
K.rK (convA ctx 27 3 t6 h19) fun t30 h31 =>
K.callFK run 71 [t4, t30] h31 fun t32 h33 =>
K.addK (K.binV ctx .add 3 true t32 (.int .i64 (.ofNat 1))) t32 (.int .i64 (.ofNat 1)) fun t34 =>
K.callFK run 43 [t0, t34, t8] h33 fun t35 h36 =>
K.unmarkK [] h36 fun h37 => .ok t35 h37))))
noncomputable def r22 : K.KRun → List AV → H → K.KR := fun run args h => K.uncons args fun t0 l1 => K.uncons l1 fun t2 l3 => K.uncons l3 fun t4 l5 => K.uncons l5 fun t6 l7 => K.unnil l7 (
K.boxK t2 h fun t8 h9 =>
K.ldsK ctx 23 3 t8 h9 fun t10 =>
K.callFK run 19 [t0, t10, t4, t6] h9 fun t11 h12 =>
K.extK t11 0 fun t13 =>
K.extK t11 1 fun t14 =>
K.allocK (K.zN ctx 43) (K.zT ctx 43) h12 fun t15 h16 =>
K.stsK 2 t15 t13 h16 fun h17 =>
K.neK (K.binV ctx .neq 24 true t14 (.int .i64 (.ofNat 0))) t14 (.int .i64 (.ofNat 0)) fun t18 =>
K.iteV t18 (
K.unmarkK [] h17 fun h19 => .ok t14 h19) (
K.ldsK ctx 23 3 t8 h17 fun t20 =>
K.fldK 0 t15 fun t21 =>
K.ldK ctx 3 t21 h17 fun t22 =>
K.callFK run 40 [t0, t20, t22] h17 fun t23 h24 =>
K.extK t23 0 fun t25 =>
K.extK t23 1 fun t26 =>
K.allocK (K.zN ctx 58) (K.zT ctx 58) h24 fun t27 h28 =>
K.stsK 10 t27 t25 h28 fun h29 =>
K.neK (K.binV ctx .neq 24 true t26 (.int .i64 (.ofNat 0))) t26 (.int .i64 (.ofNat 0)) fun t30 =>
K.iteV t30 (
K.unmarkK [] h29 fun h31 => .ok t26 h31) (
K.fldK 2 t27 fun t32 =>
K.ldK ctx 27 t32 h29 fun t33 =>
K.eqK (K.binV ctx .eql 27 true t33 (.int .u64 (.ofNat 0))) t33 (.int .u64 (.ofNat 0)) fun t34 =>
K.iteV t34 (
K.unmarkK [] h29 fun h35 => .ok (.int .i64 (.ofNat 4)) h35) (
K.rK (convA ctx 27 3 t6 h29) fun t36 h37 =>
K.bldSK ctx 43 [] fun t38 =>
K.callFK run 74 [t0, t4, t36, t38] h37 fun t39 h40 =>
K.neK (K.binV ctx .neq 24 true t39 (.int .i64 (.ofNat 0))) t39 (.int .i64 (.ofNat 0)) fun t41 =>
K.iteV t41 (
K.unmarkK [] h40 fun h42 => .ok t39 h42) (
K.ldsK ctx 23 3 t8 h40 fun t43 =>
K.fldK 0 t15 fun t44 =>
K.ldK ctx 3 t44 h40 fun t45 =>
K.fldK 2 t27 fun t46 =>
K.ldK ctx 27 t46 h40 fun t47 =>
K.subK (K.binV ctx .sub 27 true t47 (.int .u64 (.ofNat 1))) t47 (.int .u64 (.ofNat 1)) fun t48 =>
K.callFK run 44 [t43, t45] h40 fun t49 h50 =>
K.ldK ctx 27 t46 h50 fun t51 =>
K.req (AV.same t47 t51) (
K.addK (K.binV ctx .add 3 true t49 (.int .i64 (.ofNat 2))) t49 (.int .i64 (.ofNat 2)) fun t52 =>
K.callFK run 43 [t0, t52, t48] h50 fun t53 h54 =>
K.neK (K.binV ctx .neq 24 true t53 (.int .i64 (.ofNat 0))) t53 (.int .i64 (.ofNat 0)) fun t55 =>
K.iteV t55 (
K.unmarkK [] h54 fun h56 => .ok t53 h56) (
K.ldsK ctx 23 3 t8 h54 fun t57 =>
K.fldK 0 t15 fun t58 =>
K.ldK ctx 3 t58 h54 fun t59 =>
K.callFK run 14 [t0, t57, t59] h54 fun t60 h61 =>
K.unmarkK [] h61 fun h62 => .ok t60 h62)))))))
noncomputable def r23 : K.KRun → List AV → H → K.KR := fun run args h => K.uncons args fun t0 l1 => K.uncons l1 fun t2 l3 => K.uncons l3 fun t4 l5 => K.unnil l5 (
K.boxK t0 h fun t6 h7 =>
K.boxK t2 h7 fun t8 h9 =>
K.boxK t4 h9 fun t10 h11 =>
K.allocK (K.zN ctx 24) (K.zT ctx 24) h11 fun t12 h13 =>
K.ldK ctx 29 t6 h13 fun t14 =>
K.ldsK ctx 23 3 t8 h13 fun t15 =>
K.ldK ctx 3 t10 h13 fun t16 =>
K.callFK run 70 [t14, t15, t16] h13 fun t17 h18 =>
K.neK (K.binV ctx .neq 24 true t17 (.int .i64 (.ofNat 0))) t17 (.int .i64 (.ofNat 0)) fun t19 =>
K.iteV t19 (
K.stK t12 t17 h18 fun h20 =>
K.unmarkK [] h20 fun h21 => K.asPtr t12 fun n22 n23 => K.load1 h21 n22 n23 fun t24 => .ok t24 h21) (
K.letK (fun (l25 : List AV) (m26 : List Nat) (h27 : H) => K.uncons l25 fun t29 l30 => K.unnil l30 (
K.stK t29 (.int .i64 (.ofNat 0)) h27 fun h31 =>
K.unmarkK m26 h31 fun h32 => K.asPtr t29 fun n33 n34 => K.load1 h32 n33 n34 fun t35 => .ok t35 h32)) fun j28 =>
K.ldK ctx 29 t6 h18 fun t36 =>
K.ldK ctx 3 t10 h18 fun t37 =>
K.callFK run 73 [t36, t37] h18 fun t38 h39 =>
K.hNew h39 .marks fun r40 h41 => K.hNew h41 (.loop .ready none (K.mkT [3, 4, 5, 6, 20] [t6, t8, t10, t12, t38]) 2 r40) fun n42 h43 =>
K.rngK ctx run t38 n42 h43 (fun h45 => j28 [t12] (r40 :: []) h45) (fun h46 => K.unmarkK (r40 :: []) h46 fun h49 => K.asPtr t12 fun n50 n51 => K.load1 h49 n50 n51 fun t52 => .ok t52 h49) fun i44 h47 => (Bool.rec (motive := fun _ => K.KR) (.bad) (j28 [t12] (r40 :: []) h47) (Nat.beq i44 0))))
noncomputable def r24 : K.KRun → List AV → H → K.KR := fun run args h => K.unnil args (
K.bldSK ctx 23 [(0, (.int .i64 (.ofNat 1))), (1, (.int .i64 (.ofNat 9))), (2, (.int .i64 (.ofNat 30)))] fun t0 =>
K.allocK (K.zN ctx 23) (K.zT ctx 23) h fun t1 h2 =>
K.stsK 3 t1 t0 h2 fun h3 =>
K.ldsK ctx 23 3 t1 h3 fun t4 =>
K.callFK run 9 [t4] h3 fun t5 h6 =>
K.callFK run 8 [t5] h6 fun t7 h8 =>
K.eqK (K.binV ctx .eql 29 true t7 .nilPtr) t7 .nilPtr fun t9 =>
K.iteV t9 (
K.unmarkK [] h8 fun h10 => .ok (.bool false) h10) (
K.ldsK ctx 23 3 t1 h8 fun t11 =>
K.callFK run 6 [t7, t11, (.str [47, 102]), (.int .u64 (.ofNat 1))] h8 fun t12 h13 =>
K.extK t12 0 fun t14 =>
K.extK t12 1 fun t15 =>
K.ldsK ctx 23 3 t1 h13 fun t16 =>
K.callFK run 20 [t7, t16, (.int .i64 (.ofNat 0)), (.int .i64 (.ofNat 2))] h13 fun t17 h18 =>
K.extK t17 0 fun t19 =>
K.extK t17 1 fun t20 =>
K.ldsK ctx 23 3 t1 h18 fun t21 =>
K.callFK run 20 [t7, t21, (.int .i64 (.ofNat 0)), (.int .i64 (.ofNat 2))] h18 fun t22 h23 =>
K.extK t22 0 fun t24 =>
K.extK t22 1 fun t25 =>
K.ldsK ctx 23 3 t1 h23 fun t26 =>
K.callFK run 21 [t7, t26, (.int .i64 (.ofNat 0)), (.int .u64 (.ofNat 1)), (.int .u64 (.ofNat 5))] h23 fun t27 h28 =>
K.ldsK ctx 23 3 t1 h28 fun t29 =>
K.callFK run 19 [t7, t29, (.int .i64 (.ofNat 0)), (.int .u64 (.ofNat 1))] h28 fun t30 h31 =>
K.extK t30 0 fun t32 =>
K.extK t30 1 fun t33 =>
K.allocK (K.zN ctx 43) (K.zT ctx 43) h31 fun t34 h35 =>
K.stsK 2 t34 t32 h35 fun h36 =>
K.ldsK ctx 23 3 t1 h36 fun t37 =>
K.callFK run 11 [t7, t37, (.str [47, 102])] h36 fun t38 h39 =>
K.ldsK ctx 23 3 t1 h39 fun t40 =>
K.callFK run 22 [t7, t40, (.int .i64 (.ofNat 0)), (.int .u64 (.ofNat 0))] h39 fun t41 h42 =>
K.ldsK ctx 23 3 t1 h42 fun t43 =>
K.callFK run 40 [t7, t43, (.int .i64 (.ofNat 2))] h42 fun t44 h45 =>
K.extK t44 0 fun t46 =>
K.extK t44 1 fun t47 =>
K.allocK (K.zN ctx 58) (K.zT ctx 58) h45 fun t48 h49 =>
K.stsK 10 t48 t46 h49 fun h50 =>
K.ldsK ctx 23 3 t1 h50 fun t51 =>
K.callFK run 23 [t7, t51, (.int .i64 (.ofNat 0))] h50 fun t52 h53 =>
K.ldsK ctx 23 3 t1 h53 fun t54 =>
K.callFK run 40 [t7, t54, (.int .i64 (.ofNat 2))] h53 fun t55 h56 =>
K.extK t55 0 fun t57 =>
K.extK t55 1 fun t58 =>
K.allocK (K.zN ctx 58) (K.zT ctx 58) h56 fun t59 h60 =>
K.stsK 10 t59 t57 h60 fun h61 =>
K.ldsK ctx 23 3 t1 h61 fun t62 =>
K.callFK run 19 [t7, t62, (.int .i64 (.ofNat 0)), (.int .u64 (.ofNat 0))] h61 fun t63 h64 =>
K.extK t63 0 fun t65 =>
K.extK t63 1 fun t66 =>
K.allocK (K.zN ctx 43) (K.zT ctx 43) h64 fun t67 h68 =>
K.stsK 2 t67 t65 h68 fun h69 =>
K.ldsK ctx 23 3 t1 h69 fun t70 =>
K.callFK run 20 [t7, t70, (.int .i64 (.ofNat 0)), (.int .i64 (.ofNat 1))] h69 fun t71 h72 =>
K.extK t71 0 fun t73 =>
K.extK t71 1 fun t74 =>
K.eqK (K.binV ctx .eql 24 true t15 (.int .i64 (.ofNat 0))) t15 (.int .i64 (.ofNat 0)) fun t75 =>
K.letK (fun (t76 : AV) (h77 : H) => K.letK (fun (t79 : AV) (h80 : H) => K.pickK t75 t79 (.bool false) fun t82 =>
K.letK (fun (t83 : AV) (h84 : H) => K.letK (fun (t86 : AV) (h87 : H) => K.pickK t82 t86 (.bool false) fun t89 =>
K.letK (fun (t90 : AV) (h91 : H) => K.letK (fun (t93 : AV) (h94 : H) => K.pickK t89 t93 (.bool false) fun t96 =>
K.letK (fun (t97 : AV) (h98 : H) => K.letK (fun (t100 : AV) (h101 : H) => K.pickK t96 t100 (.bool false) fun t103 =>
K.letK (fun (t104 : AV) (h105 : H) => K.letK (fun (t107 : AV) (h108 : H) => K.pickK t103 t107 (.bool false) fun t110 =>
K.letK (fun (t111 : AV) (h112 : H) => K.letK (fun (t114 : AV) (h115 : H) => K.pickK t110 t114 (.bool false) fun t117 =>
K.letK (fun (t118 : AV) (h119 : H) => K.letK (fun (t121 : AV) (h122 : H) => K.pickK t117 t121 (.bool false) fun t124 =>
K.letK (fun (t125 : AV) (h126 : H) => K.letK (fun (t128 : AV) (h129 : H) => K.letK (fun (t131 : AV) (h132 : H) => K.pickK t124 t131 (.bool false) fun t134 =>
K.letK (fun (t135 : AV) (h136 : H) => K.letK (fun (t138 : AV) (h139 : H) => K.pickK t134 t138 (.bool false) fun t141 =>
K.letK (fun (t142 : AV) (h143 : H) => K.letK (fun (t145 : AV) (h146 : H) => K.pickK t141 t145 (.bool false) fun t148 =>
K.letK (fun (t149 : AV) (h150 : H) => K.letK (fun (t152 : AV) (h153 : H) => K.pickK t148 t152 (.bool false) fun t155 =>
K.letK (fun (t156 : AV) (h157 : H) => K.letK (fun (t159 : AV) (h160 : H) => K.pickK t155 t159 (.bool false) fun t162 =>
K.letK (fun (t163 : AV) (h164 : H) => K.letK (fun (t166 : AV) (h167 : H) => K.pickK t162 t166 (.bool false) fun t169 =>
K.letK (fun (t170 : AV) (h171 : H) => K.letK (fun (t173 : AV) (h174 : H) => K.pickK t169 t173 (.bool false) fun t176 =>
K.letK (fun (t177 : AV) (h178 : H) => K.letK (fun (t180 : AV) (h181 : H) => K.pickK t176 t180 (.bool false) fun t183 =>
K.unmarkK [] h181 fun h184 => .ok t183 h184) fun j182 =>
K.guK true t176 (K.eqK (K.binV ctx .eql 24 true t177 (.int .i64 (.ofNat 11))) t177 (.int .i64 (.ofNat 11)) fun t185 =>
j182 t185 h178) (j182 (.tup []) h178)) fun j179 =>
K.guK true t176 (j179 t74 h174) (j179 (.tup []) h174)) fun j175 =>
K.guK true t169 (K.eqK (K.binV ctx .eql 24 true t170 (.int .i64 (.ofNat 14))) t170 (.int .i64 (.ofNat 14)) fun t186 =>
j175 t186 h171) (j175 (.tup []) h171)) fun j172 =>
K.guK true t169 (j172 t66 h167) (j172 (.tup []) h167)) fun j168 =>
K.guK true t162 (K.eqK (K.binV ctx .eql 24 true t163 (.int .i64 (.ofNat 4))) t163 (.int .i64 (.ofNat 4)) fun t187 =>
j168 t187 h164) (j168 (.tup []) h164)) fun j165 =>
K.guK true t162 (j165 t58 h160) (j165 (.tup []) h160)) fun j161 =>
K.guK true t155 (K.eqK (K.binV ctx .eql 24 true t156 (.int .i64 (.ofNat 0))) t156 (.int .i64 (.ofNat 0)) fun t188 =>
j161 t188 h157) (j161 (.tup []) h157)) fun j158 =>
K.guK true t155 (j158 t52 h153) (j158 (.tup []) h153)) fun j154 =>
K.guK true t148 (K.eqK (K.binV ctx .eql 24 true t149 (.int .i64 (.ofNat 0))) t149 (.int .i64 (.ofNat 0)) fun t189 =>
j154 t189 h150) (j154 (.tup []) h150)) fun j151 =>
K.guK true t148 (j151 t47 h146) (j151 (.tup []) h146)) fun j147 =>
K.guK true t141 (K.eqK (K.binV ctx .eql 24 true t142 (.int .i64 (.ofNat 0))) t142 (.int .i64 (.ofNat 0)) fun t190 =>
j147 t190 h143) (j147 (.tup []) h143)) fun j144 =>
K.guK true t141 (j144 t41 h139) (j144 (.tup []) h139)) fun j140 =>
K.guK true t134 (K.eqK (K.binV ctx .eql 24 true t135 (.int .i64 (.ofNat 0))) t135 (.int .i64 (.ofNat 0)) fun t191 =>
j140 t191 h136) (j140 (.tup []) h136)) fun j137 =>
K.guK true t134 (j137 t38 h132) (j137 (.tup []) h132)) fun j133 =>
K.guK true t124 (K.eqK (K.binV ctx .eql 43 false t125 t128) t125 t128 fun t192 =>
j133 t192 h129) (j133 (.tup []) h129)) fun j130 =>
K.guK true t124 (K.bldSK ctx 43 [(0, (.int .i64 (.ofNat 2))), (1, (.int .u64 (.ofNat 5)))] fun t193 =>
j130 t193 h126) (j130 (.tup []) h126)) fun j127 =>
K.guK true t124 (K.ldsK ctx 43 2 t34 h122 fun t194 =>
j127 t194 h122) (j127 (.tup []) h122)) fun j123 =>
K.guK true t117 (K.eqK (K.binV ctx .eql 24 true t118 (.int .i64 (.ofNat 0))) t118 (.int .i64 (.ofNat 0)) fun t195 =>
j123 t195 h119) (j123 (.tup []) h119)) fun j120 =>
K.guK true t117 (j120 t33 h115) (j120 (.tup []) h115)) fun j116 =>
K.guK true t110 (K.eqK (K.binV ctx .eql 24 true t111 (.int .i64 (.ofNat 0))) t111 (.int .i64 (.ofNat 0)) fun t196 =>
j116 t196 h112) (j116 (.tup []) h112)) fun j113 =>
K.guK true t110 (j113 t27 h108) (j113 (.tup []) h108)) fun j109 =>
K.guK true t103 (K.eqK (K.binV ctx .eql 3 true t104 (.int .i64 (.ofNat 1))) t104 (.int .i64 (.ofNat 1)) fun t197 =>
j109 t197 h105) (j109 (.tup []) h105)) fun j106 =>
K.guK true t103 (j106 t24 h101) (j106 (.tup []) h101)) fun j102 =>
K.guK true t96 (K.eqK (K.binV ctx .eql 24 true t97 (.int .i64 (.ofNat 0))) t97 (.int .i64 (.ofNat 0)) fun t198 =>
j102 t198 h98) (j102 (.tup []) h98)) fun j99 =>
K.guK true t96 (j99 t25 h94) (j99 (.tup []) h94)) fun j95 =>
K.guK true t89 (K.eqK (K.binV ctx .eql 3 true t90 (.int .i64 (.ofNat 0))) t90 (.int .i64 (.ofNat 0)) fun t199 =>
j95 t199 h91) (j95 (.tup []) h91)) fun j92 =>
K.guK true t89 (j92 t19 h87) (j92 (.tup []) h87)) fun j88 =>
K.guK true t82 (K.eqK (K.binV ctx .eql 24 true t83 (.int .i64 (.ofNat 0))) t83 (.int .i64 (.ofNat 0)) fun t200 =>
j88 t200 h84) (j88 (.tup []) h84)) fun j85 =>
K.guK true t82 (j85 t20 h80) (j85 (.tup []) h80)) fun j81 =>
K.guK true t75 (K.eqK (K.binV ctx .eql 3 true t76 (.int .i64 (.ofNat 2))) t76 (.int .i64 (.ofNat 2)) fun t201 =>
j81 t201 h77) (j81 (.tup []) h77)) fun j78 =>
K.guK true t75 (j78 t14 h72) (j78 (.tup []) h72)))
noncomputable def r25 : K.KRun → List AV → H → K.KR := fun run args h => K.uncons args fun t0 l1 => K.uncons l1 fun t2 l3 => K.uncons l3 fun t4 l5 => K.unnil l5 (
K.boxK t2 h fun t6 h7 =>
K.ldsK ctx 23 3 t6 h7 fun t8 =>
K.callFK run 75 [t0, t8, t4] h7 fun t9 h10 =>
K.extK t9 0 fun t11 =>
K.extK t9 1 fun t12 =>
K.extK t9 2 fun t13 =>
K.neK (K.binV ctx .neq 24 true t13 (.int .i64 (.ofNat 0))) t13 (.int .i64 (.ofNat 0)) fun t14 =>
K.iteV t14 (
K.unmarkK [] h10 fun h15 => .ok (.tup [(.int .i64 (.ofNat 0)), (.str []), t13]) h15) (
K.ldsK ctx 23 3 t6 h10 fun t16 =>
K.callFK run 76 [t0, t16, t11, t12] h10 fun t17 h18 =>
K.extK t17 0 fun t19 =>
K.extK t17 1 fun t20 =>
K.extK t17 2 fun t21 =>
K.allocK (K.zN ctx 64) (K.zT ctx 64) h18 fun t22 h23 =>
K.stsK 2 t22 t19 h23 fun h24 =>
K.eqK (K.binV ctx .eql 24 true t21 (.int .i64 (.ofNat 6))) t21 (.int .i64 (.ofNat 6)) fun t25 =>
K.iteV t25 (
K.unmarkK [] h24 fun h26 => .ok (.tup [t11, t12, (.int .i64 (.ofNat 0))]) h26) (
K.eqK (K.binV ctx .eql 24 true t21 (.int .i64 (.ofNat 0))) t21 (.int .i64 (.ofNat 0)) fun t27 =>
K.iteV t27 (
K.unmarkK [] h24 fun h28 => .ok (.tup [(.int .i64 (.ofNat 0)), (.str []), (.int .i64 (.ofNat 9))]) h28) (
K.unmarkK [] h24 fun h29 => .ok (.tup [(.int .i64 (.ofNat 0)), (.str []), t21]) h29))))
noncomputable def r26 : K.KRun → List AV → H → K.KR := fun run args h => K.uncons args fun t0 l1 => K.uncons l1 fun t2 l3 => K.unnil l3 (
K.boxK t2 h fun t4 h5 =>
K.eqK (K.binV ctx .eql 29 true t0 .nilPtr) t0 .nilPtr fun t6 =>
K.iteV t6 (
K.unmarkK [] h5 fun h7 => .ok (.tup [.nilPtr, (.int .i64 (.ofNat 2))]) h7) (
K.ldsK ctx 23 3 t4 h5 fun t8 =>
K.callFK run 77 [t8] h5 fun t9 h10 =>
K.notK t9 fun t11 =>
K.iteV t11 (
K.unmarkK [] h10 fun h12 => .ok (.tup [.nilPtr, (.int .i64 (.ofNat 1))]) h12) (
K.ldsK ctx 23 3 t4 h10 fun t13 =>
K.callFK run 78 [t0] h10 fun t14 h15 =>
K.ldsK ctx 23 3 t4 h15 fun t16 =>
K.req (AV.same t13 t16) (
K.callFK run 79 [t13] h15 fun t17 h18 =>
K.ltK (K.binV ctx .lss 3 false t14 t17) t14 t17 fun t19 =>
K.iteV t19 (
K.unmarkK [] h18 fun h20 => .ok (.tup [.nilPtr, (.int .i64 (.ofNat 8))]) h20) (
K.ldsK ctx 23 3 t4 h18 fun t21 =>
K.fldK 1 t4 fun t22 =>
K.ldK ctx 3 t22 h18 fun t23 =>
K.callFK run 81 [t21] h18 fun t24 h25 =>
K.ldK ctx 3 t22 h25 fun t26 =>
K.req (AV.same t23 t26) (
K.callFK run 80 [t0, t24, t23] h25 fun t27 h28 =>
K.extK t27 0 fun t29 =>
K.extK t27 1 fun t30 =>
K.neK (K.binV ctx .neq 24 true t30 (.int .i64 (.ofNat 0))) t30 (.int .i64 (.ofNat 0)) fun t31 =>
K.iteV t31 (
K.unmarkK [] h28 fun h32 => .ok (.tup [.nilPtr, t30]) h32) (
K.ldsK ctx 23 3 t4 h28 fun t33 =>
K.fldK 2 t4 fun t34 =>
K.ldK ctx 3 t34 h28 fun t35 =>
K.callFK run 82 [t33] h28 fun t36 h37 =>
K.ldK ctx 3 t34 h37 fun t38 =>
K.req (AV.same t35 t38) (
K.callFK run 80 [t0, t36, t35] h37 fun t39 h40 =>
K.extK t39 0 fun t41 =>
K.extK t39 1 fun t42 =>
K.neK (K.binV ctx .neq 24 true t42 (.int .i64 (.ofNat 0))) t42 (.int .i64 (.ofNat 0)) fun t43 =>
K.iteV t43 (
K.unmarkK [] h40 fun h44 => .ok (.tup [.nilPtr, t42]) h44) (
K.ldsK ctx 23 3 t4 h40 fun t45 =>
K.fldK 1 t4 fun t46 =>
K.ldK ctx 3 t46 h40 fun t47 =>
K.bldSK ctx 112 [(0, t29), (1, t47)] fun t48 =>
K.fldK 2 t4 fun t49 =>
K.ldK ctx 3 t49 h40 fun t50 =>
K.bldSK ctx 112 [(0, t41), (1, t50)] fun t51 =>
K.bldSK ctx 114 [(0, t0), (1, t45), (2, t48), (3, t51)] fun t52 =>
K.boxK t52 h40 fun t53 h54 =>
K.unmarkK [] h54 fun h55 => .ok (.tup [t53, (.int .i64 (.ofNat 0))]) h55)))))))))
noncomputable def r27 : K.KRun → List AV → H → K.KR := fun run args h => K.uncons args fun t0 l1 => K.unnil l1 (
K.eqK (K.binV ctx .eql 52 true t0 .nilPtr) t0 .nilPtr fun t2 =>
K.iteV t2 (
K.unmarkK [] h fun h3 => .ok (.tup [(.int .i64 (.ofNat 0)), (.int .i64 (.ofNat 2))]) h3) (
K.nilK t0 fun t4 =>
K.fldK 4 t4 fun t5 =>
K.ldsK ctx 112 2 t5 h fun t6 =>
K.callFK run 83 [t0, t6, .nilFunc] h fun t7 h8 =>
K.extK t7 0 fun t9 =>
K.extK t7 1 fun t10 =>
K.unmarkK [] h8 fun h11 => .ok (.tup [t9, t10]) h11))
noncomputable def r28 : K.KRun → List AV → H → K.KR := fun run args h => K.uncons args fun t0 l1 => K.unnil l1 (
K.letK (fun (l2 : List AV) (m3 : List Nat) (h4 : H) => K.unnil l2 (
K.unmarkK m3 h4 fun h6 => .ok (.int .i64 (.ofNat 0)) h6)) fun j5 =>
K.lenVK t0 fun t7 =>
K.loopV (nat_lit 1000000) (fun s11 l8 m9 h10 => K.uncons l8 fun t12 l13 => K.uncons l13 fun t14 l15 => K.uncons l15 fun t16 l17 => K.unnil l17 (
K.ltK (K.binV ctx .lss 3 false t16 t14) t16 t14 fun t18 =>
K.iteV t18 (
K.idxSK 1 t12 t16 fun t19 =>
K.ldK ctx 61 t19 h10 fun t20 =>
K.callVK run t20 [] h10 fun t21 h22 =>
K.neK (K.binV ctx .neq 24 true t21 (.int .i64 (.ofNat 0))) t21 (.int .i64 (.ofNat 0)) fun t23 =>
K.iteV t23 (
K.unmarkK m9 h22 fun h24 => .ok t21 h24) (
K.addK (K.binV ctx .add 3 true t16 (.int .i64 (.ofNat 1))) t16 (.int .i64 (.ofNat 1)) fun t25 =>
s11 [t12, t14, t25] m9 h22)) (
j5 [] m9 h10))) [t0, t7, (.int .i64 (.ofNat 0))] [] h)
end YtpfgllikhklnoaaGreatDoorFdM
