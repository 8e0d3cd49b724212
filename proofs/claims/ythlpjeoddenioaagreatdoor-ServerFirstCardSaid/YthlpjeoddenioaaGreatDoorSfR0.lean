/- PRINTED BY Gen2.lean (own): functions as plain texts, part 0. -/
import Derived.Test.YthlpjeoddenioaaGreatDoorSfCtx
namespace YthlpjeoddenioaaGreatDoorSfM
open Go Am
set_option maxRecDepth 100000
noncomputable def r3N (N : Nat) : K.KRun → List AV → H → K.KR := fun run args h => K.uncons args fun t0 l1 => K.uncons l1 fun t2 l3 => K.uncons l3 fun t4 l5 => K.uncons l5 fun t6 l7 => K.uncons l7 fun t8 l9 => K.unnil l9 (
K.lenVK t4 fun t10 =>
K.gtK (K.binV ctx .gtr 3 true t10 (.int .i64 (.ofNat 20))) t10 (.int .i64 (.ofNat 20)) fun t11 =>
K.iteV t11 (
K.callFK run 4 [] h fun t12 h13 =>
K.unmarkK [] h13 fun h14 => .ok t12 h14) (
K.callFK run 5 [t0, t2] h fun t15 h16 =>
K.allocK (K.zN ctx 26) (K.zT ctx 26) h16 fun t17 h18 =>
K.stsK 3 t17 t15 h18 fun h19 =>
K.ldsK ctx 26 3 t17 h19 fun t20 =>
K.callFK run 6 [t20, t4, (.int .u16 (.ofNat 0))] h19 fun t21 h22 =>
K.callFK run 7 [t21] h22 fun t23 h24 =>
K.extK t23 0 fun t25 =>
K.extK t23 1 fun t26 =>
K.allocK (K.zN ctx 26) (K.zT ctx 26) h24 fun t27 h28 =>
K.stsK 3 t27 t25 h28 fun h29 =>
K.letK (fun (l30 : List AV) (m31 : List Nat) (h32 : H) => K.uncons l30 fun t34 l35 => K.uncons l35 fun t36 l37 => K.uncons l37 fun t38 l39 => K.unnil l39 (
K.letK (fun (l40 : List AV) (m41 : List Nat) (h42 : H) => K.uncons l40 fun t44 l45 => K.uncons l45 fun t46 l47 => K.uncons l47 fun t48 l49 => K.uncons l49 fun t50 l51 => K.unnil l51 (
K.callFK run 10 [t44] h42 fun t52 h53 =>
K.callFK run 9 [t52] h53 fun t54 h55 =>
K.extK t54 0 fun t56 =>
K.extK t54 1 fun t57 =>
K.notK t48 fun t58 =>
K.iteV t58 (
K.eqK (K.binV ctx .eql 35 true t57 (.int .i64 (.ofNat 4))) t57 (.int .i64 (.ofNat 4)) fun t59 =>
K.letK (fun (t60 : AV) (h61 : H) => K.letK (fun (t63 : AV) (h64 : H) => K.pickK t59 t63 (.bool false) fun t66 =>
K.letK (fun (t67 : AV) (h68 : H) => K.pickK t66 t67 (.bool false) fun t70 =>
K.unmarkK m41 h68 fun h71 => .ok t70 h71) fun j69 =>
K.guK true t66 (K.callFK run 4 [] h64 fun t72 h73 =>
j69 t72 h73) (j69 (.tup []) h64)) fun j65 =>
K.guK true t59 (K.eqK (K.binV ctx .eql 34 true t60 .nilPtr) t60 .nilPtr fun t74 =>
j65 t74 h61) (j65 (.tup []) h61)) fun j62 =>
K.guK true t59 (j62 t56 h55) (j62 (.tup []) h55)) (
K.iteV t50 (
K.eqK (K.binV ctx .eql 35 true t57 (.int .i64 (.ofNat 3))) t57 (.int .i64 (.ofNat 3)) fun t75 =>
K.letK (fun (t76 : AV) (h77 : H) => K.letK (fun (t79 : AV) (h80 : H) => K.pickK t75 t79 (.bool false) fun t82 =>
K.letK (fun (t83 : AV) (h84 : H) => K.pickK t82 t83 (.bool false) fun t86 =>
K.unmarkK m41 h84 fun h87 => .ok t86 h87) fun j85 =>
K.guK true t82 (K.callFK run 4 [] h80 fun t88 h89 =>
j85 t88 h89) (j85 (.tup []) h80)) fun j81 =>
K.guK true t75 (K.eqK (K.binV ctx .eql 34 true t76 .nilPtr) t76 .nilPtr fun t90 =>
j81 t90 h77) (j81 (.tup []) h77)) fun j78 =>
K.guK true t75 (j78 t56 h55) (j78 (.tup []) h55)) (
K.eqK (K.binV ctx .eql 35 true t57 (.int .i64 (.ofNat 0))) t57 (.int .i64 (.ofNat 0)) fun t91 =>
K.letK (fun (t92 : AV) (h93 : H) => K.letK (fun (t95 : AV) (h96 : H) => K.pickK t91 t95 (.bool false) fun t98 =>
K.letK (fun (t99 : AV) (h100 : H) => K.letK (fun (t102 : AV) (h103 : H) => K.guK true t98 (K.ldK ctx 3 t102 h103 fun t105 =>
K.letK (fun (t106 : AV) (h107 : H) => K.letK (fun (t109 : AV) (h110 : H) => K.pickK t98 t109 (.bool false) fun t112 =>
K.letK (fun (t113 : AV) (h114 : H) => K.letK (fun (t116 : AV) (h117 : H) => K.letK (fun (t119 : AV) (h120 : H) => K.pickK t112 t119 (.bool false) fun t122 =>
K.letK (fun (t123 : AV) (h124 : H) => K.letK (fun (t126 : AV) (h127 : H) => K.letK (fun (t129 : AV) (h130 : H) => K.pickK t122 t129 (.bool false) fun t132 =>
K.letK (fun (t133 : AV) (h134 : H) => K.pickK t132 t133 (.bool false) fun t136 =>
K.unmarkK m41 h134 fun h137 => .ok t136 h137) fun j135 =>
K.guK true t132 (K.callFK run 4 [] h130 fun t138 h139 =>
j135 t138 h139) (j135 (.tup []) h130)) fun j131 =>
K.guK true t122 (K.eqK (K.binV ctx .eql 3 true t126 (.int .i64 (.ofNat 0))) t126 (.int .i64 (.ofNat 0)) fun t140 =>
j131 t140 h127) (j131 (.tup []) h127)) fun j128 =>
K.guK true t122 (K.callFK run 13 [t123, (.int .i64 (.ofNat 0))] h124 fun t141 h142 =>
j128 t141 h142) (j128 (.tup []) h124)) fun j125 =>
K.guK true t122 (j125 t56 h120) (j125 (.tup []) h120)) fun j121 =>
K.guK true t112 (K.eqK (K.binV ctx .eql 3 true t116 (.int .i64 (.ofNat 0))) t116 (.int .i64 (.ofNat 0)) fun t143 =>
j121 t143 h117) (j121 (.tup []) h117)) fun j118 =>
K.guK true t112 (K.callFK run 12 [t113] h114 fun t144 h145 =>
j118 t144 h145) (j118 (.tup []) h114)) fun j115 =>
K.guK true t112 (j115 t56 h110) (j115 (.tup []) h110)) fun j111 =>
K.guK true t98 (K.eqK (K.binV ctx .eql 3 false t106 t105) t106 t105 fun t146 =>
j111 t146 h107) (j111 (.tup []) h107)) fun j108 =>
K.guK true t98 (K.callFK run 11 [t99] h103 fun t147 h148 =>
K.ldK ctx 3 t102 h148 fun t149 =>
K.req (AV.same t105 t149) (
j108 t147 h148)) (j108 (.tup []) h103)) (K.letK (fun (t150 : AV) (h151 : H) => K.letK (fun (t153 : AV) (h154 : H) => K.pickK t98 t153 (.bool false) fun t156 =>
K.letK (fun (t157 : AV) (h158 : H) => K.letK (fun (t160 : AV) (h161 : H) => K.letK (fun (t163 : AV) (h164 : H) => K.pickK t156 t163 (.bool false) fun t166 =>
K.letK (fun (t167 : AV) (h168 : H) => K.letK (fun (t170 : AV) (h171 : H) => K.letK (fun (t173 : AV) (h174 : H) => K.pickK t166 t173 (.bool false) fun t176 =>
K.letK (fun (t177 : AV) (h178 : H) => K.pickK t176 t177 (.bool false) fun t180 =>
K.unmarkK m41 h178 fun h181 => .ok t180 h181) fun j179 =>
K.guK true t176 (K.callFK run 4 [] h174 fun t182 h183 =>
j179 t182 h183) (j179 (.tup []) h174)) fun j175 =>
K.guK true t166 (K.eqK (K.binV ctx .eql 3 true t170 (.int .i64 (.ofNat 0))) t170 (.int .i64 (.ofNat 0)) fun t184 =>
j175 t184 h171) (j175 (.tup []) h171)) fun j172 =>
K.guK true t166 (K.callFK run 13 [t167, (.int .i64 (.ofNat 0))] h168 fun t185 h186 =>
j172 t185 h186) (j172 (.tup []) h168)) fun j169 =>
K.guK true t166 (j169 t56 h164) (j169 (.tup []) h164)) fun j165 =>
K.guK true t156 (K.eqK (K.binV ctx .eql 3 true t160 (.int .i64 (.ofNat 0))) t160 (.int .i64 (.ofNat 0)) fun t187 =>
j165 t187 h161) (j165 (.tup []) h161)) fun j162 =>
K.guK true t156 (K.callFK run 12 [t157] h158 fun t188 h189 =>
j162 t188 h189) (j162 (.tup []) h158)) fun j159 =>
K.guK true t156 (j159 t56 h154) (j159 (.tup []) h154)) fun j155 =>
K.guK true t98 (K.eqK (K.binV ctx .eql 3 false t150 (.tup [])) t150 (.tup []) fun t190 =>
j155 t190 h151) (j155 (.tup []) h151)) fun j152 =>
K.guK true t98 (K.callFK run 11 [t99] h103 fun t191 h192 =>
j152 t191 h192) (j152 (.tup []) h103))) fun j104 =>
K.guK true t98 (K.fldK 0 t46 fun t193 =>
j104 t193 h100) (j104 (.tup []) h100)) fun j101 =>
K.guK true t98 (j101 t56 h96) (j101 (.tup []) h96)) fun j97 =>
K.guK true t91 (K.neK (K.binV ctx .neq 34 true t92 .nilPtr) t92 .nilPtr fun t194 =>
j97 t194 h93) (j97 (.tup []) h93)) fun j94 =>
K.guK true t91 (j94 t56 h55) (j94 (.tup []) h55))))) fun j43 =>
K.loopV N (fun s198 l195 m196 h197 => K.uncons l195 fun t199 l200 => K.uncons l200 fun t201 l202 => K.uncons l202 fun t203 l204 => K.uncons l204 fun t205 l206 => K.uncons l206 fun t207 l208 => K.unnil l208 (
K.letK (fun (t209 : AV) (h210 : H) => K.letK (fun (t212 : AV) (h213 : H) => K.letK (fun (t215 : AV) (h216 : H) => K.letK (fun (t218 : AV) (h219 : H) => K.pickK t203 t218 (.bool false) fun t221 =>
K.iteV t221 (
K.letK (fun (t222 : AV) (h223 : H) => K.letK (fun (t225 : AV) (h226 : H) => K.letK (fun (t228 : AV) (h229 : H) => K.letK (fun (t231 : AV) (h232 : H) => K.letK (fun (t234 : AV) (h235 : H) => K.letK (fun (t237 : AV) (h238 : H) => K.letK (fun (t240 : AV) (h241 : H) => K.pickK t205 (.bool true) t240 fun t243 =>
K.addK (K.binV ctx .add 3 true t207 (.int .i64 (.ofNat 1))) t207 (.int .i64 (.ofNat 1)) fun t244 =>
s198 [t199, t201, t203, t243, t244] m196 h241) fun j242 =>
K.guK false t205 (K.neK (K.binV ctx .neq 23 true t237 (.int .u64 (.ofNat 0))) t237 (.int .u64 (.ofNat 0)) fun t245 =>
j242 t245 h238) (j242 (.tup []) h238)) fun j239 =>
K.guK false t205 (K.ldK ctx 23 t234 h235 fun t246 =>
j239 t246 h235) (j239 (.tup []) h235)) fun j236 =>
K.guK false t205 (K.idxSK 1 t222 t231 fun t247 =>
j236 t247 h232) (j236 (.tup []) h232)) fun j233 =>
K.guK false t205 (K.callFK run 8 [t225, t228] h229 fun t248 h249 =>
j233 t248 h249) (j233 (.tup []) h229)) fun j230 =>
K.guK false t205 (j230 t207 h226) (j230 (.tup []) h226)) fun j227 =>
K.guK false t205 (K.ldsK ctx 26 3 t201 h223 fun t250 =>
j227 t250 h223) (j227 (.tup []) h223)) fun j224 =>
K.guK false t205 (j224 t199 h219) (j224 (.tup []) h219)) (
j43 [t199, t201, t203, t205] m196 h219)) fun j220 =>
K.guK true t203 (K.ltK (K.binV ctx .lss 3 false t209 t215) t209 t215 fun t251 =>
j220 t251 h216) (j220 (.tup []) h216)) fun j217 =>
K.guK true t203 (K.ldK ctx 3 t212 h213 fun t252 =>
j217 t252 h213) (j217 (.tup []) h213)) fun j214 =>
K.guK true t203 (K.fldK 0 t201 fun t253 =>
j214 t253 h210) (j214 (.tup []) h210)) fun j211 =>
K.guK true t203 (j211 t207 h197) (j211 (.tup []) h197))) [t34, t36, t38, (.bool false), (.int .i64 (.ofNat 0))] m31 h32)) fun j33 =>
K.iteV t26 (
K.ldsK ctx 26 3 t27 h29 fun t254 =>
K.rK (convA ctx 5 3 t6 h29) fun t255 h256 =>
K.fldK 0 t27 fun t257 =>
K.ldK ctx 3 t257 h256 fun t258 =>
K.oK (K.binV ctx .rem 3 false t255 t258) fun t259 =>
K.callFK run 8 [t254, t259] h256 fun t260 h261 =>
K.idxSK 1 t21 t260 fun t262 =>
K.stK t262 t8 h261 fun h263 =>
j33 [t21, t27, t26] [] h263) (
j33 [t21, t27, t26] [] h29)))
noncomputable def r3 : K.KRun → List AV → H → K.KR := r3N (nat_lit 1000000)

noncomputable def r5 : K.KRun → List AV → H → K.KR := fun run args h => K.uncons args fun t0 l1 => K.uncons l1 fun t2 l3 => K.unnil l3 (
K.allocK (K.zN ctx 26) (K.zT ctx 26) h fun t4 h5 =>
K.callFK run 19 [t2] h5 fun t6 h7 =>
K.allocK (K.zN ctx 26) (K.zT ctx 26) h7 fun t8 h9 =>
K.stsK 3 t8 t6 h9 fun h10 =>
K.rK (convA ctx 5 3 t0 h10) fun t11 h12 =>
K.oK (K.binV ctx .rem 3 true t11 (.int .i64 (.ofNat 4))) fun t13 =>
K.addK (K.binV ctx .add 3 true (.int .i64 (.ofNat 1)) t13) (.int .i64 (.ofNat 1)) t13 fun t14 =>
K.fldK 0 t8 fun t15 =>
K.stK t15 t14 h12 fun h16 =>
K.ldsK ctx 26 3 t8 h16 fun t17 =>
K.stsK 3 t4 t17 h16 fun h18 =>
K.unmarkK [] h18 fun h19 => K.asPtr t4 fun n20 n21 => K.loads h19 n20 n21 3 fun t22 => .ok (.agg t22) h19)
noncomputable def r6 : K.KRun → List AV → H → K.KR := fun run args h => K.uncons args fun t0 l1 => K.uncons l1 fun t2 l3 => K.uncons l3 fun t4 l5 => K.unnil l5 (
K.boxK t0 h fun t6 h7 =>
K.ldsK ctx 26 3 t6 h7 fun t8 =>
K.callFK run 14 [t8] h7 fun t9 h10 =>
K.letK (fun (l11 : List AV) (m12 : List Nat) (h13 : H) => K.uncons l11 fun t15 l16 => K.uncons l16 fun t17 l18 => K.unnil l18 (
K.lenVK t17 fun t19 =>
K.rK (convA ctx 30 3 t15 h13) fun t20 h21 =>
K.lenVK t17 fun t22 =>
K.slowK ctx run (K.opAt Go.Proofs.Tryz.f6 6 7) [42, 44] [t20, t22] h21 fun t23 h24 =>
K.subK (K.binV ctx .sub 3 false t19 t23) t19 t23 fun t25 =>
K.slcK ctx 28 t17 none (some t25) none h24 fun t26 =>
K.unmarkK m12 h24 fun h27 => .ok t26 h27)) fun j14 =>
K.loopV (nat_lit 1000000) (fun s31 l28 m29 h30 => K.uncons l28 fun t32 l33 => K.uncons l33 fun t34 l35 => K.uncons l35 fun t36 l37 => K.uncons l37 fun t38 l39 => K.unnil l39 (
K.lenVK t32 fun t40 =>
K.ltK (K.binV ctx .lss 3 false t38 t40) t38 t40 fun t41 =>
K.letK (fun (t42 : AV) (h43 : H) => K.letK (fun (t45 : AV) (h46 : H) => K.letK (fun (t48 : AV) (h49 : H) => K.pickK t41 t48 (.bool false) fun t51 =>
K.iteV t51 (
K.idxSK 2 t32 t38 fun t52 =>
K.fldK 0 t52 fun t53 =>
K.ldK ctx 30 t53 h49 fun t54 =>
K.rK (convA ctx 30 3 t54 h49) fun t55 h56 =>
K.lenVK t36 fun t57 =>
K.oK (K.binV ctx .rem 3 false t55 t57) fun t58 =>
K.idxSK 2 t32 t38 fun t59 =>
K.fldK 1 t59 fun t60 =>
K.ldK ctx 23 t60 h56 fun t61 =>
K.idxSK 1 t36 t58 fun t62 =>
K.stK t62 t61 h56 fun h63 =>
K.addK (K.binV ctx .add 3 true t38 (.int .i64 (.ofNat 1))) t38 (.int .i64 (.ofNat 1)) fun t64 =>
s31 [t32, t34, t36, t64] m29 h63) (
j14 [t34, t36] m29 h49)) fun j50 =>
K.guK true t41 (K.gtK (K.binV ctx .gtr 3 true t45 (.int .i64 (.ofNat 0))) t45 (.int .i64 (.ofNat 0)) fun t65 =>
j50 t65 h46) (j50 (.tup []) h46)) fun j47 =>
K.guK true t41 (K.lenVK t42 fun t66 =>
j47 t66 h43) (j47 (.tup []) h43)) fun j44 =>
K.guK true t41 (j44 t36 h30) (j44 (.tup []) h30))) [t2, t4, t9, (.int .i64 (.ofNat 0))] [] h10)
noncomputable def r7 : K.KRun → List AV → H → K.KR := fun run args h => K.uncons args fun t0 l1 => K.unnil l1 (
K.allocK (K.zN ctx 26) (K.zT ctx 26) h fun t2 h3 =>
K.lenVK t0 fun t4 =>
K.ltK (K.binV ctx .lss 3 true t4 (.int .i64 (.ofNat 8))) t4 (.int .i64 (.ofNat 8)) fun t5 =>
K.letK (fun (t6 : AV) (h7 : H) => K.letK (fun (t9 : AV) (h10 : H) => K.letK (fun (t12 : AV) (h13 : H) => K.letK (fun (t15 : AV) (h16 : H) => K.pickK t5 (.bool true) t15 fun t18 =>
K.letK (fun (t19 : AV) (h20 : H) => K.letK (fun (t22 : AV) (h23 : H) => K.letK (fun (t25 : AV) (h26 : H) => K.letK (fun (t28 : AV) (h29 : H) => K.letK (fun (t31 : AV) (h32 : H) => K.letK (fun (t34 : AV) (h35 : H) => K.letK (fun (t37 : AV) (h38 : H) => K.letK (fun (t40 : AV) (h41 : H) => K.letK (fun (t43 : AV) (h44 : H) => K.letK (fun (t46 : AV) (h47 : H) => K.letK (fun (t49 : AV) (h50 : H) => K.pickK t18 (.bool true) t49 fun t52 =>
K.iteV t52 (
K.bldSK ctx 26 [] fun t53 =>
K.stsK 3 t2 t53 h50 fun h54 =>
K.unmarkK [] h54 fun h55 => K.asPtr t2 fun n56 n57 => K.loads h55 n56 n57 3 fun t58 => .ok (.tup [(.agg t58), (.bool false)]) h55) (
K.idxSK 1 t0 (.int .i64 (.ofNat 1)) fun t59 =>
K.ldK ctx 23 t59 h50 fun t60 =>
K.rK (convA ctx 23 3 t60 h50) fun t61 h62 =>
K.idxSK 1 t0 (.int .i64 (.ofNat 2)) fun t63 =>
K.ldK ctx 23 t63 h62 fun t64 =>
K.rK (convA ctx 23 3 t64 h62) fun t65 h66 =>
K.idxSK 1 t0 (.int .i64 (.ofNat 3)) fun t67 =>
K.ldK ctx 23 t67 h66 fun t68 =>
K.rK (convA ctx 23 3 t68 h66) fun t69 h70 =>
K.bldSK ctx 26 [(0, t61), (1, t65), (2, t69)] fun t71 =>
K.stsK 3 t2 t71 h70 fun h72 =>
K.ldsK ctx 26 3 t2 h72 fun t73 =>
K.callFK run 20 [t73] h72 fun t74 h75 =>
K.notK t74 fun t76 =>
K.letK (fun (t77 : AV) (h78 : H) => K.letK (fun (t80 : AV) (h81 : H) => K.letK (fun (t83 : AV) (h84 : H) => K.letK (fun (t86 : AV) (h87 : H) => K.letK (fun (t89 : AV) (h90 : H) => K.pickK t76 (.bool true) t89 fun t92 =>
K.iteV t92 (
K.bldSK ctx 26 [] fun t93 =>
K.stsK 3 t2 t93 h90 fun h94 =>
K.unmarkK [] h94 fun h95 => K.asPtr t2 fun n96 n97 => K.loads h95 n96 n97 3 fun t98 => .ok (.tup [(.agg t98), (.bool false)]) h95) (
K.ldsK ctx 26 3 t2 h90 fun t99 =>
K.stsK 3 t2 t99 h90 fun h100 =>
K.unmarkK [] h100 fun h101 => K.asPtr t2 fun n102 n103 => K.loads h101 n102 n103 3 fun t104 => .ok (.tup [(.agg t104), (.bool true)]) h101)) fun j91 =>
K.guK false t76 (K.ltK (K.binV ctx .lss 3 false t80 t86) t80 t86 fun t105 =>
j91 t105 h87) (j91 (.tup []) h87)) fun j88 =>
K.guK false t76 (K.callFK run 21 [t83] h84 fun t106 h107 =>
j88 t106 h107) (j88 (.tup []) h84)) fun j85 =>
K.guK false t76 (K.ldsK ctx 26 3 t2 h81 fun t108 =>
j85 t108 h81) (j85 (.tup []) h81)) fun j82 =>
K.guK false t76 (K.lenVK t77 fun t109 =>
j82 t109 h78) (j82 (.tup []) h78)) fun j79 =>
K.guK false t76 (j79 t0 h75) (j79 (.tup []) h75))) fun j51 =>
K.guK false t18 (K.gtK (K.binV ctx .gtr 23 true t46 (.int .u64 (.ofNat 512))) t46 (.int .u64 (.ofNat 512)) fun t110 =>
j51 t110 h47) (j51 (.tup []) h47)) fun j48 =>
K.guK false t18 (K.slowK ctx run (K.opAt Go.Proofs.Tryz.f7 1 19) [16, 19, 22] [t25, t34, t43] h44 fun t111 h112 =>
j48 t111 h112) (j48 (.tup []) h44)) fun j45 =>
K.guK false t18 (K.ldK ctx 23 t40 h41 fun t113 =>
j45 t113 h41) (j45 (.tup []) h41)) fun j42 =>
K.guK false t18 (K.idxSK 1 t37 (.int .i64 (.ofNat 3)) fun t114 =>
j42 t114 h38) (j42 (.tup []) h38)) fun j39 =>
K.guK false t18 (j39 t0 h35) (j39 (.tup []) h35)) fun j36 =>
K.guK false t18 (K.ldK ctx 23 t31 h32 fun t115 =>
j36 t115 h32) (j36 (.tup []) h32)) fun j33 =>
K.guK false t18 (K.idxSK 1 t28 (.int .i64 (.ofNat 2)) fun t116 =>
j33 t116 h29) (j33 (.tup []) h29)) fun j30 =>
K.guK false t18 (j30 t0 h26) (j30 (.tup []) h26)) fun j27 =>
K.guK false t18 (K.ldK ctx 23 t22 h23 fun t117 =>
j27 t117 h23) (j27 (.tup []) h23)) fun j24 =>
K.guK false t18 (K.idxSK 1 t19 (.int .i64 (.ofNat 1)) fun t118 =>
j24 t118 h20) (j24 (.tup []) h20)) fun j21 =>
K.guK false t18 (j21 t0 h16) (j21 (.tup []) h16)) fun j17 =>
K.guK false t5 (K.neK (K.binV ctx .neq 23 true t12 (.int .u64 (.ofNat 32762617960297063))) t12 (.int .u64 (.ofNat 32762617960297063)) fun t119 =>
j17 t119 h13) (j17 (.tup []) h13)) fun j14 =>
K.guK false t5 (K.ldK ctx 23 t9 h10 fun t120 =>
j14 t120 h10) (j14 (.tup []) h10)) fun j11 =>
K.guK false t5 (K.idxSK 1 t6 (.int .i64 (.ofNat 0)) fun t121 =>
j11 t121 h7) (j11 (.tup []) h7)) fun j8 =>
K.guK false t5 (j8 t0 h3) (j8 (.tup []) h3))
noncomputable def r8 : K.KRun → List AV → H → K.KR := fun run args h => K.uncons args fun t0 l1 => K.uncons l1 fun t2 l3 => K.unnil l3 (
K.boxK t0 h fun t4 h5 =>
K.ldsK ctx 26 3 t4 h5 fun t6 =>
K.callFK run 22 [t6, (.int .u8 (.ofNat 5)), t2] h5 fun t7 h8 =>
K.unmarkK [] h8 fun h9 => .ok t7 h9)
noncomputable def r9N (N : Nat) : K.KRun → List AV → H → K.KR := fun run args h => K.uncons args fun t0 l1 => K.unnil l1 (
K.eqK (K.binV ctx .eql 38 true t0 .nilPtr) t0 .nilPtr fun t2 =>
K.iteV t2 (
K.unmarkK [] h fun h3 => .ok (.tup [.nilPtr, (.int .i64 (.ofNat 2))]) h3) (
K.callFK run 23 [t0] h fun t4 h5 =>
K.callFK run 7 [t4] h5 fun t6 h7 =>
K.extK t6 0 fun t8 =>
K.extK t6 1 fun t9 =>
K.allocK (K.zN ctx 26) (K.zT ctx 26) h7 fun t10 h11 =>
K.stsK 3 t10 t8 h11 fun h12 =>
K.notK t9 fun t13 =>
K.iteV t13 (
K.unmarkK [] h12 fun h14 => .ok (.tup [.nilPtr, (.int .i64 (.ofNat 4))]) h14) (
K.letK (fun (l15 : List AV) (m16 : List Nat) (h17 : H) => K.uncons l15 fun t19 l20 => K.uncons l20 fun t21 l22 => K.unnil l22 (
K.fldK 0 t21 fun t23 =>
K.ldK ctx 3 t23 h17 fun t24 =>
K.callFK run 24 [t24] h17 fun t25 h26 =>
K.extK t25 0 fun t27 =>
K.extK t25 1 fun t28 =>
K.neK (K.binV ctx .neq 35 true t28 (.int .i64 (.ofNat 0))) t28 (.int .i64 (.ofNat 0)) fun t29 =>
K.iteV t29 (
K.unmarkK m16 h26 fun h30 => .ok (.tup [.nilPtr, t28]) h30) (
K.fldK 0 t21 fun t31 =>
K.ldK ctx 3 t31 h26 fun t32 =>
K.mslK ctx 88 13 t32 t32 h26 fun t33 h34 =>
K.slowK ctx run (K.opAt Go.Proofs.Tryz.f9 16 4) [] [] h34 fun t35 h36 =>
K.bldSK ctx 79 [(0, t19), (2, t33), (4, t35)] fun t37 =>
K.boxK t37 h36 fun t38 h39 =>
K.letK (fun (l40 : List AV) (m41 : List Nat) (h42 : H) => K.uncons l40 fun t44 l45 => K.unnil l45 (
K.unmarkK m41 h42 fun h46 => .ok (.tup [t44, (.int .i64 (.ofNat 0))]) h46)) fun j43 =>
K.fldK 0 t21 fun t47 =>
K.ldK ctx 3 t47 h39 fun t48 =>
K.loopV N (fun s52 l49 m50 h51 => K.uncons l49 fun t53 l54 => K.uncons l54 fun t55 l56 => K.uncons l56 fun t57 l58 => K.uncons l58 fun t59 l60 => K.uncons l60 fun t61 l62 => K.uncons l62 fun t63 l64 => K.unnil l64 (
K.ltK (K.binV ctx .lss 3 false t63 t61) t63 t61 fun t65 =>
K.iteV t65 (
K.ldsK ctx 26 3 t55 h51 fun t66 =>
K.callFK run 25 [t53, t66, t57, t63] h51 fun t67 h68 =>
K.extK t67 0 fun t69 =>
K.extK t67 1 fun t70 =>
K.neK (K.binV ctx .neq 35 true t70 (.int .i64 (.ofNat 0))) t70 (.int .i64 (.ofNat 0)) fun t71 =>
K.iteV t71 (
K.unmarkK m50 h68 fun h72 => .ok (.tup [.nilPtr, t70]) h72) (
K.nilK t59 fun t73 =>
K.fldK 1 t73 fun t74 =>
K.ldK ctx 77 t74 h68 fun t75 =>
K.bslK ctx 80 1 1 [(0, t69)] h68 fun t76 h77 =>
K.appK ctx 80 1 t75 t76 h77 fun t78 h79 =>
K.nilK t59 fun t80 =>
K.fldK 1 t80 fun t81 =>
K.stK t81 t78 h79 fun h82 =>
K.addK (K.binV ctx .add 3 true t63 (.int .i64 (.ofNat 1))) t63 (.int .i64 (.ofNat 1)) fun t83 =>
s52 [t53, t55, t57, t59, t61, t83] m50 h82)) (
j43 [t59] m50 h51))) [t19, t21, t27, t38, t48, (.int .i64 (.ofNat 0))] m16 h39))) fun j18 =>
K.fldK 0 t10 fun t84 =>
K.ldK ctx 3 t84 h12 fun t85 =>
K.loopV N (fun s89 l86 m87 h88 => K.uncons l86 fun t90 l91 => K.uncons l91 fun t92 l93 => K.uncons l93 fun t94 l95 => K.uncons l95 fun t96 l97 => K.uncons l97 fun t98 l99 => K.unnil l99 (
K.ltK (K.binV ctx .lss 3 false t98 t96) t98 t96 fun t100 =>
K.iteV t100 (
K.ldsK ctx 26 3 t94 h88 fun t101 =>
K.callFK run 8 [t101, t98] h88 fun t102 h103 =>
K.idxSK 1 t92 t102 fun t104 =>
K.ldK ctx 23 t104 h103 fun t105 =>
K.neK (K.binV ctx .neq 23 true t105 (.int .u64 (.ofNat 0))) t105 (.int .u64 (.ofNat 0)) fun t106 =>
K.iteV t106 (
K.unmarkK m87 h103 fun h107 => .ok (.tup [.nilPtr, (.int .i64 (.ofNat 3))]) h107) (
K.addK (K.binV ctx .add 3 true t98 (.int .i64 (.ofNat 1))) t98 (.int .i64 (.ofNat 1)) fun t108 =>
s89 [t90, t92, t94, t96, t108] m87 h103)) (
j18 [t90, t94] m87 h88))) [t0, t4, t10, t85, (.int .i64 (.ofNat 0))] [] h12)))
noncomputable def r9 : K.KRun → List AV → H → K.KR := r9N (nat_lit 1000000)
noncomputable def r10N (N : Nat) : K.KRun → List AV → H → K.KR := fun run args h => K.uncons args fun t0 l1 => K.unnil l1 (
K.lenVK t0 fun t2 =>
K.callFK run 26 [t2] h fun t3 h4 =>
K.extK t3 0 fun t5 =>
K.extK t3 1 fun t6 =>
K.neK (K.binV ctx .neq 35 true t6 (.int .i64 (.ofNat 0))) t6 (.int .i64 (.ofNat 0)) fun t7 =>
K.letK (fun (t8 : AV) (h9 : H) => K.letK (fun (t11 : AV) (h12 : H) => K.pickK t7 (.bool true) t11 fun t14 =>
K.iteV t14 (
K.unmarkK [] h12 fun h15 => .ok .nilPtr h15) (
K.letK (fun (l16 : List AV) (m17 : List Nat) (h18 : H) => K.uncons l16 fun t20 l21 => K.uncons l21 fun t22 l23 => K.unnil l23 (
K.letK (fun (l24 : List AV) (m25 : List Nat) (h26 : H) => K.uncons l24 fun t28 l29 => K.unnil l29 (
K.unmarkK m25 h26 fun h30 => .ok t28 h30)) fun j27 =>
K.loopV N (fun s34 l31 m32 h33 => K.uncons l31 fun t35 l36 => K.uncons l36 fun t37 l38 => K.uncons l38 fun t39 l40 => K.unnil l40 (
K.lenVK t35 fun t41 =>
K.oK (K.binV ctx .quo 3 true t41 (.int .i64 (.ofNat 8))) fun t42 =>
K.ltK (K.binV ctx .lss 3 false t39 t42) t39 t42 fun t43 =>
K.iteV t43 (
K.callFK run 28 [t37, t39] h33 fun t44 h45 =>
K.neK (K.binV ctx .neq 35 true t44 (.int .i64 (.ofNat 0))) t44 (.int .i64 (.ofNat 0)) fun t46 =>
K.iteV t46 (
K.unmarkK m32 h45 fun h47 => .ok .nilPtr h47) (
K.addK (K.binV ctx .add 3 true t39 (.int .i64 (.ofNat 1))) t39 (.int .i64 (.ofNat 1)) fun t48 =>
s34 [t35, t37, t48] m32 h45)) (
j27 [t37] m32 h33))) [t20, t22, (.int .i64 (.ofNat 0))] m17 h18)) fun j19 =>
K.loopV N (fun s52 l49 m50 h51 => K.uncons l49 fun t53 l54 => K.uncons l54 fun t55 l56 => K.uncons l56 fun t57 l58 => K.unnil l58 (
K.lenVK t53 fun t59 =>
K.ltK (K.binV ctx .lss 3 false t57 t59) t57 t59 fun t60 =>
K.iteV t60 (
K.idxSK 1 t53 t57 fun t61 =>
K.ldK ctx 23 t61 h51 fun t62 =>
K.neK (K.binV ctx .neq 23 true t62 (.int .u64 (.ofNat 0))) t62 (.int .u64 (.ofNat 0)) fun t63 =>
K.letK (fun (t64 : AV) (h65 : H) => K.letK (fun (t67 : AV) (h68 : H) => K.letK (fun (t70 : AV) (h71 : H) => K.letK (fun (t73 : AV) (h74 : H) => K.letK (fun (t76 : AV) (h77 : H) => K.letK (fun (t79 : AV) (h80 : H) => K.letK (fun (t82 : AV) (h83 : H) => K.letK (fun (t85 : AV) (h86 : H) => K.pickK t63 t85 (.bool false) fun t88 =>
K.iteV t88 (
K.unmarkK m50 h86 fun h89 => .ok .nilPtr h89) (
K.addK (K.binV ctx .add 3 true t57 (.int .i64 (.ofNat 1))) t57 (.int .i64 (.ofNat 1)) fun t90 =>
s52 [t53, t55, t90] m50 h86)) fun j87 =>
K.guK true t63 (K.neK (K.binV ctx .neq 35 true t82 (.int .i64 (.ofNat 0))) t82 (.int .i64 (.ofNat 0)) fun t91 =>
j87 t91 h83) (j87 (.tup []) h83)) fun j84 =>
K.guK true t63 (K.callFK run 27 [t64, t67, t79] h80 fun t92 h93 =>
j84 t92 h93) (j84 (.tup []) h80)) fun j81 =>
K.guK true t63 (K.ldK ctx 23 t76 h77 fun t94 =>
j81 t94 h77) (j81 (.tup []) h77)) fun j78 =>
K.guK true t63 (K.idxSK 1 t70 t73 fun t95 =>
j78 t95 h74) (j78 (.tup []) h74)) fun j75 =>
K.guK true t63 (j75 t57 h71) (j75 (.tup []) h71)) fun j72 =>
K.guK true t63 (j72 t53 h68) (j72 (.tup []) h68)) fun j69 =>
K.guK true t63 (j69 t57 h65) (j69 (.tup []) h65)) fun j66 =>
K.guK true t63 (j66 t55 h51) (j66 (.tup []) h51)) (
j19 [t53, t55] m50 h51))) [t0, t5, (.int .i64 (.ofNat 0))] [] h12)) fun j13 =>
K.guK false t7 (K.eqK (K.binV ctx .eql 38 true t8 .nilPtr) t8 .nilPtr fun t96 =>
j13 t96 h9) (j13 (.tup []) h9)) fun j10 =>
K.guK false t7 (j10 t5 h4) (j10 (.tup []) h4))
noncomputable def r10 : K.KRun → List AV → H → K.KR := r10N (nat_lit 1000000)
noncomputable def r11 : K.KRun → List AV → H → K.KR := fun run args h => K.uncons args fun t0 l1 => K.unnil l1 (
K.eqK (K.binV ctx .eql 34 true t0 .nilPtr) t0 .nilPtr fun t2 =>
K.iteV t2 (
K.unmarkK [] h fun h3 => .ok (.int .i64 (.ofNat 0)) h3) (
K.nilK t0 fun t4 =>
K.fldK 1 t4 fun t5 =>
K.ldK ctx 77 t5 h fun t6 =>
K.lenVK t6 fun t7 =>
K.unmarkK [] h fun h8 => .ok t7 h8))
noncomputable def r12 : K.KRun → List AV → H → K.KR := fun run args h => K.uncons args fun t0 l1 => K.unnil l1 (
K.eqK (K.binV ctx .eql 34 true t0 .nilPtr) t0 .nilPtr fun t2 =>
K.iteV t2 (
K.unmarkK [] h fun h3 => .ok (.int .i64 (.ofNat 0)) h3) (
K.nilK t0 fun t4 =>
K.fldK 3 t4 fun t5 =>
K.ldK ctx 75 t5 h fun t6 =>
K.lenVK t6 fun t7 =>
K.unmarkK [] h fun h8 => .ok t7 h8))
noncomputable def r13 : K.KRun → List AV → H → K.KR := fun run args h => K.uncons args fun t0 l1 => K.uncons l1 fun t2 l3 => K.unnil l3 (
K.eqK (K.binV ctx .eql 34 true t0 .nilPtr) t0 .nilPtr fun t4 =>
K.letK (fun (t5 : AV) (h6 : H) => K.letK (fun (t8 : AV) (h9 : H) => K.pickK t4 (.bool true) t8 fun t11 =>
K.letK (fun (t12 : AV) (h13 : H) => K.letK (fun (t15 : AV) (h16 : H) => K.letK (fun (t18 : AV) (h19 : H) => K.letK (fun (t21 : AV) (h22 : H) => K.letK (fun (t24 : AV) (h25 : H) => K.letK (fun (t27 : AV) (h28 : H) => K.letK (fun (t30 : AV) (h31 : H) => K.pickK t11 (.bool true) t30 fun t33 =>
K.iteV t33 (
K.unmarkK [] h31 fun h34 => .ok (.int .i64 (.ofNat 0)) h34) (
K.nilK t0 fun t35 =>
K.fldK 2 t35 fun t36 =>
K.ldK ctx 75 t36 h31 fun t37 =>
K.idxSK 13 t37 t2 fun t38 =>
K.fldK 0 t38 fun t39 =>
K.ldK ctx 3 t39 h31 fun t40 =>
K.unmarkK [] h31 fun h41 => .ok t40 h41)) fun j32 =>
K.guK false t11 (K.geK (K.binV ctx .geq 3 false t12 t27) t12 t27 fun t42 =>
j32 t42 h28) (j32 (.tup []) h28)) fun j29 =>
K.guK false t11 (K.lenVK t24 fun t43 =>
j29 t43 h25) (j29 (.tup []) h25)) fun j26 =>
K.guK false t11 (K.ldK ctx 75 t21 h22 fun t44 =>
j26 t44 h22) (j26 (.tup []) h22)) fun j23 =>
K.guK false t11 (K.fldK 2 t18 fun t45 =>
j23 t45 h19) (j23 (.tup []) h19)) fun j20 =>
K.guK false t11 (K.nilK t15 fun t46 =>
j20 t46 h16) (j20 (.tup []) h16)) fun j17 =>
K.guK false t11 (j17 t0 h13) (j17 (.tup []) h13)) fun j14 =>
K.guK false t11 (j14 t2 h9) (j14 (.tup []) h9)) fun j10 =>
K.guK false t4 (K.ltK (K.binV ctx .lss 3 true t5 (.int .i64 (.ofNat 0))) t5 (.int .i64 (.ofNat 0)) fun t47 =>
j10 t47 h6) (j10 (.tup []) h6)) fun j7 =>
K.guK false t4 (j7 t2 h) (j7 (.tup []) h))
noncomputable def r14 : K.KRun → List AV → H → K.KR := fun run args h => K.uncons args fun t0 l1 => K.unnil l1 (
K.boxK t0 h fun t2 h3 =>
K.ldsK ctx 44 3 t2 h3 fun t4 =>
K.callFK run 29 [t4] h3 fun t5 h6 =>
K.notK t5 fun t7 =>
K.iteV t7 (
K.unmarkK [] h6 fun h8 => .ok .nilSlice h8) (
K.ldsK ctx 44 3 t2 h6 fun t9 =>
K.callFK run 30 [t9] h6 fun t10 h11 =>
K.mslK ctx 23 1 t10 t10 h11 fun t12 h13 =>
K.idxSK 1 t12 (.int .i64 (.ofNat 0)) fun t14 =>
K.stK t14 (.int .u64 (.ofNat 32762617960297063)) h13 fun h15 =>
K.fldK 0 t2 fun t16 =>
K.ldK ctx 3 t16 h15 fun t17 =>
K.rK (convA ctx 3 23 t17 h15) fun t18 h19 =>
K.idxSK 1 t12 (.int .i64 (.ofNat 1)) fun t20 =>
K.stK t20 t18 h19 fun h21 =>
K.fldK 1 t2 fun t22 =>
K.ldK ctx 3 t22 h21 fun t23 =>
K.rK (convA ctx 3 23 t23 h21) fun t24 h25 =>
K.idxSK 1 t12 (.int .i64 (.ofNat 2)) fun t26 =>
K.stK t26 t24 h25 fun h27 =>
K.fldK 2 t2 fun t28 =>
K.ldK ctx 3 t28 h27 fun t29 =>
K.rK (convA ctx 3 23 t29 h27) fun t30 h31 =>
K.idxSK 1 t12 (.int .i64 (.ofNat 3)) fun t32 =>
K.stK t32 t30 h31 fun h33 =>
K.ldsK ctx 44 3 t2 h33 fun t34 =>
K.callFK run 31 [t34] h33 fun t35 h36 =>
K.idxSK 1 t12 t35 fun t37 =>
K.stK t37 (.int .u64 (.ofNat 3)) h36 fun h38 =>
K.ldsK ctx 44 3 t2 h38 fun t39 =>
K.callFK run 32 [t39] h38 fun t40 h41 =>
K.idxSK 1 t12 t40 fun t42 =>
K.stK t42 (.int .u64 (.ofNat 1)) h41 fun h43 =>
K.ldsK ctx 44 3 t2 h43 fun t44 =>
K.callFK run 33 [t44, (.int .i64 (.ofNat 1))] h43 fun t45 h46 =>
K.idxSK 1 t12 t45 fun t47 =>
K.stK t47 (.int .u64 (.ofNat 2)) h46 fun h48 =>
K.ldsK ctx 44 3 t2 h48 fun t49 =>
K.callFK run 33 [t49, (.int .i64 (.ofNat 1))] h48 fun t50 h51 =>
K.addK (K.binV ctx .add 3 true t50 (.int .i64 (.ofNat 1))) t50 (.int .i64 (.ofNat 1)) fun t52 =>
K.idxSK 1 t12 t52 fun t53 =>
K.stK t53 (.int .u64 (.ofNat 1)) h51 fun h54 =>
K.unmarkK [] h54 fun h55 => .ok t12 h55))
noncomputable def r15 : K.KRun → List AV → H → K.KR := fun run args h => K.uncons args fun t0 l1 => K.uncons l1 fun t2 l3 => K.unnil l3 (
K.eqK (K.binV ctx .eql 34 true t0 .nilPtr) t0 .nilPtr fun t4 =>
K.iteV t4 (
K.unmarkK [] h fun h5 => .ok (.tup [(.int .u8 (.ofNat 0)), (.int .i64 (.ofNat 2))]) h5) (
K.letK (fun (l6 : List AV) (m7 : List Nat) (h8 : H) => K.uncons l6 fun t10 l11 => K.uncons l11 fun t12 l13 => K.uncons l13 fun t14 l15 => K.unnil l15 (
K.iteV t14 (
K.unmarkK m7 h8 fun h16 => .ok (.tup [(.int .u8 (.ofNat 0)), (.int .i64 (.ofNat 1))]) h16) (
K.letK (fun (l17 : List AV) (m18 : List Nat) (h19 : H) => K.uncons l17 fun t21 l22 => K.uncons l22 fun t23 l24 => K.unnil l24 (
K.nilK t21 fun t25 =>
K.fldK 1 t25 fun t26 =>
K.ldK ctx 77 t26 h19 fun t27 =>
K.idxSK 1 t27 t23 fun t28 =>
K.ldK ctx 80 t28 h19 fun t29 =>
K.callFK run 35 [t29] h19 fun t30 h31 =>
K.extK t30 0 fun t32 =>
K.extK t30 1 fun t33 =>
K.letK (fun (l34 : List AV) (m35 : List Nat) (h36 : H) => K.uncons l34 fun t38 l39 => K.uncons l39 fun t40 l41 => K.unnil l41 (
K.unmarkK m35 h36 fun h42 => .ok (.tup [t38, t40]) h42)) fun j37 =>
K.eqK (K.binV ctx .eql 45 true t32 (.int .u8 (.ofNat 10))) t32 (.int .u8 (.ofNat 10)) fun t43 =>
K.iteV t43 (
K.letK (fun (l44 : List AV) (m45 : List Nat) (h46 : H) => K.uncons l44 fun t48 l49 => K.uncons l49 fun t50 l51 => K.uncons l51 fun t52 l53 => K.uncons l53 fun t54 l55 => K.unnil l55 (
K.nilK t48 fun t56 =>
K.fldK 2 t56 fun t57 =>
K.ldK ctx 75 t57 h46 fun t58 =>
K.bldSK ctx 88 [] fun t59 =>
K.idxSK 13 t58 t50 fun t60 =>
K.stsK 13 t60 t59 h46 fun h61 =>
j37 [t52, t54] m45 h61)) fun j47 =>
K.nilK t21 fun t62 =>
K.fldK 1 t62 fun t63 =>
K.ldK ctx 77 t63 h31 fun t64 =>
K.idxSK 1 t64 t23 fun t65 =>
K.ldK ctx 80 t65 h31 fun t66 =>
K.callFK run 36 [t66] h31 fun t67 h68 =>
K.extK t67 0 fun t69 =>
K.extK t67 1 fun t70 =>
K.allocK (K.zN ctx 61) (K.zT ctx 61) h68 fun t71 h72 =>
K.stsK 7 t71 t69 h72 fun h73 =>
K.iteV t70 (
K.nilK t21 fun t74 =>
K.fldK 4 t74 fun t75 =>
K.ldK ctx 76 t75 h73 fun t76 =>
K.nilK t21 fun t77 =>
K.fldK 2 t77 fun t78 =>
K.ldK ctx 75 t78 h73 fun t79 =>
K.idxSK 13 t79 t23 fun t80 =>
K.fldK 0 t80 fun t81 =>
K.ldK ctx 3 t81 h73 fun t82 =>
K.ldsK ctx 61 7 t71 h73 fun t83 =>
K.slowK ctx run (K.opAt Go.Proofs.Tryz.f15 14 13) [67, 75, 76] [t76, t82, t83] h73 fun t84 h85 =>
j47 [t21, t23, t32, t33] m18 h85) (
j47 [t21, t23, t32, t33] m18 h73)) (
j37 [t32, t33] m18 h31))) fun j20 =>
K.nilK t10 fun t86 =>
K.fldK 2 t86 fun t87 =>
K.ldK ctx 75 t87 h8 fun t88 =>
K.idxSK 13 t88 t12 fun t89 =>
K.fldK 0 t89 fun t90 =>
K.ldK ctx 3 t90 h8 fun t91 =>
K.eqK (K.binV ctx .eql 3 true t91 (.int .i64 (.ofNat 0))) t91 (.int .i64 (.ofNat 0)) fun t92 =>
K.iteV t92 (
K.callFK run 34 [t10, t12] h8 fun t93 h94 =>
K.neK (K.binV ctx .neq 35 true t93 (.int .i64 (.ofNat 0))) t93 (.int .i64 (.ofNat 0)) fun t95 =>
K.iteV t95 (
K.unmarkK m7 h94 fun h96 => .ok (.tup [(.int .u8 (.ofNat 0)), t93]) h96) (
j20 [t10, t12] m7 h94)) (
j20 [t10, t12] m7 h8)))) fun j9 =>
K.ltK (K.binV ctx .lss 3 true t2 (.int .i64 (.ofNat 0))) t2 (.int .i64 (.ofNat 0)) fun t97 =>
K.iteV t97 (
j9 [t0, t2, t97] [] h) (
K.nilK t0 fun t98 =>
K.fldK 1 t98 fun t99 =>
K.ldK ctx 77 t99 h fun t100 =>
K.lenVK t100 fun t101 =>
K.geK (K.binV ctx .geq 3 false t2 t101) t2 t101 fun t102 =>
j9 [t0, t2, t102] [] h)))
noncomputable def r16 : K.KRun → List AV → H → K.KR := fun run args h => K.uncons args fun t0 l1 => K.uncons l1 fun t2 l3 => K.unnil l3 (
K.boxK t2 h fun t4 h5 =>
K.eqK (K.binV ctx .eql 34 true t0 .nilPtr) t0 .nilPtr fun t6 =>
K.iteV t6 (
K.unmarkK [] h5 fun h7 => .ok (.tup [(.int .i64 (.ofNat 0)), (.int .i64 (.ofNat 2))]) h7) (
K.ldsK ctx 54 12 t4 h5 fun t8 =>
K.callFK run 37 [.nilSlice, t8] h5 fun t9 h10 =>
K.extK t9 0 fun t11 =>
K.extK t9 1 fun t12 =>
K.eqK (K.binV ctx .eql 35 true t12 (.int .i64 (.ofNat 1))) t12 (.int .i64 (.ofNat 1)) fun t13 =>
K.iteV t13 (
K.unmarkK [] h10 fun h14 => .ok (.tup [(.int .i64 (.ofNat 0)), t12]) h14) (
K.nilK t0 fun t15 =>
K.fldK 3 t15 fun t16 =>
K.ldK ctx 75 t16 h10 fun t17 =>
K.lenVK t17 fun t18 =>
K.geK (K.binV ctx .geq 3 true t18 (.int .i64 (.ofNat 16))) t18 (.int .i64 (.ofNat 16)) fun t19 =>
K.iteV t19 (
K.unmarkK [] h10 fun h20 => .ok (.tup [(.int .i64 (.ofNat 0)), (.int .i64 (.ofNat 5))]) h20) (
K.nilK t0 fun t21 =>
K.fldK 5 t21 fun t22 =>
K.ldK ctx 3 t22 h10 fun t23 =>
K.addK (K.binV ctx .add 3 true t23 (.int .i64 (.ofNat 1))) t23 (.int .i64 (.ofNat 1)) fun t24 =>
K.nilK t0 fun t25 =>
K.fldK 5 t25 fun t26 =>
K.stK t26 t24 h10 fun h27 =>
K.nilK t0 fun t28 =>
K.fldK 3 t28 fun t29 =>
K.ldK ctx 75 t29 h27 fun t30 =>
K.nilK t0 fun t31 =>
K.fldK 5 t31 fun t32 =>
K.ldK ctx 3 t32 h27 fun t33 =>
K.ldsK ctx 54 12 t4 h27 fun t34 =>
K.bldSK ctx 88 [(0, t33), (1, t34)] fun t35 =>
K.bslK ctx 88 13 1 [(0, t35)] h27 fun t36 h37 =>
K.appK ctx 88 13 t30 t36 h37 fun t38 h39 =>
K.nilK t0 fun t40 =>
K.fldK 3 t40 fun t41 =>
K.stK t41 t38 h39 fun h42 =>
K.nilK t0 fun t43 =>
K.fldK 5 t43 fun t44 =>
K.ldK ctx 3 t44 h42 fun t45 =>
K.unmarkK [] h42 fun h46 => .ok (.tup [t45, (.int .i64 (.ofNat 0))]) h46))))
noncomputable def r17 : K.KRun → List AV → H → K.KR := fun run args h => K.uncons args fun t0 l1 => K.uncons l1 fun t2 l3 => K.uncons l3 fun t4 l5 => K.uncons l5 fun t6 l7 => K.unnil l7 (
K.boxK t2 h fun t8 h9 =>
K.allocK (K.zN ctx 57) (K.zT ctx 57) h9 fun t10 h11 =>
K.eqK (K.binV ctx .eql 34 true t0 .nilPtr) t0 .nilPtr fun t12 =>
K.iteV t12 (
K.bldSK ctx 57 [] fun t13 =>
K.stsK 4 t10 t13 h11 fun h14 =>
K.unmarkK [] h14 fun h15 => K.asPtr t10 fun n16 n17 => K.loads h15 n16 n17 4 fun t18 => .ok (.tup [(.int .u8 (.ofNat 0)), (.agg t18), (.int .i64 (.ofNat 2))]) h15) (
K.letK (fun (l19 : List AV) (m20 : List Nat) (h21 : H) => K.uncons l19 fun t23 l24 => K.uncons l24 fun t25 l26 => K.uncons l26 fun t27 l28 => K.uncons l28 fun t29 l30 => K.uncons l30 fun t31 l32 => K.uncons l32 fun t33 l34 => K.unnil l34 (
K.iteV t33 (
K.bldSK ctx 57 [] fun t35 =>
K.stsK 4 t31 t35 h21 fun h36 =>
K.unmarkK m20 h36 fun h37 => K.asPtr t31 fun n38 n39 => K.loads h37 n38 n39 4 fun t40 => .ok (.tup [(.int .u8 (.ofNat 0)), (.agg t40), (.int .i64 (.ofNat 1))]) h37) (
K.callFK run 38 [t23, (.func (.func 39) [] [t29])] h21 fun t41 h42 =>
K.iteV t41 (
K.bldSK ctx 57 [] fun t43 =>
K.stsK 4 t31 t43 h42 fun h44 =>
K.unmarkK m20 h44 fun h45 => K.asPtr t31 fun n46 n47 => K.loads h45 n46 n47 4 fun t48 => .ok (.tup [(.int .u8 (.ofNat 0)), (.agg t48), (.int .i64 (.ofNat 21))]) h45) (
K.nilK t23 fun t49 =>
K.fldK 0 t49 fun t50 =>
K.ldK ctx 38 t50 h42 fun t51 =>
K.ldK ctx 3 t29 h42 fun t52 =>
K.callFK run 23 [t51] h42 fun t53 h54 =>
K.ldK ctx 3 t29 h54 fun t55 =>
K.req (AV.same t52 t55) (
K.callFK run 41 [t53] h54 fun t56 h57 =>
K.ldK ctx 3 t29 h57 fun t58 =>
K.req (AV.same t52 t58) (
K.callFK run 40 [t56, t52, t25, t27] h57 fun t59 h60 =>
K.extK t59 0 fun t61 =>
K.extK t59 1 fun t62 =>
K.extK t59 2 fun t63 =>
K.stsK 4 t31 t62 h60 fun h64 =>
K.unmarkK m20 h64 fun h65 => K.asPtr t31 fun n66 n67 => K.loads h65 n66 n67 4 fun t68 => .ok (.tup [t61, (.agg t68), t63]) h65)))))) fun j22 =>
K.ldK ctx 3 t8 h11 fun t69 =>
K.ltK (K.binV ctx .lss 3 true t69 (.int .i64 (.ofNat 0))) t69 (.int .i64 (.ofNat 0)) fun t70 =>
K.iteV t70 (
j22 [t0, t4, t6, t8, t10, t70] [] h11) (
K.ldK ctx 3 t8 h11 fun t71 =>
K.geK (K.binV ctx .geq 3 true t71 (.int .i64 (.ofNat 4))) t71 (.int .i64 (.ofNat 4)) fun t72 =>
j22 [t0, t4, t6, t8, t10, t72] [] h11)))
noncomputable def r18 : K.KRun → List AV → H → K.KR := fun run args h => K.uncons args fun t0 l1 => K.uncons l1 fun t2 l3 => K.unnil l3 (
K.boxK t2 h fun t4 h5 =>
K.allocK (K.zN ctx 61) (K.zT ctx 61) h5 fun t6 h7 =>
K.eqK (K.binV ctx .eql 34 true t0 .nilPtr) t0 .nilPtr fun t8 =>
K.iteV t8 (
K.bldSK ctx 61 [] fun t9 =>
K.stsK 7 t6 t9 h7 fun h10 =>
K.unmarkK [] h10 fun h11 => K.asPtr t6 fun n12 n13 => K.loads h11 n12 n13 7 fun t14 => .ok (.tup [(.agg t14), (.int .i64 (.ofNat 2))]) h11) (
K.callFK run 38 [t0, (.func (.func 42) [] [t4])] h7 fun t15 h16 =>
K.iteV t15 (
K.bldSK ctx 61 [] fun t17 =>
K.stsK 7 t6 t17 h16 fun h18 =>
K.unmarkK [] h18 fun h19 => K.asPtr t6 fun n20 n21 => K.loads h19 n20 n21 7 fun t22 => .ok (.tup [(.agg t22), (.int .i64 (.ofNat 21))]) h19) (
K.nilK t0 fun t23 =>
K.fldK 4 t23 fun t24 =>
K.ldK ctx 76 t24 h16 fun t25 =>
K.ldK ctx 3 t4 h16 fun t26 =>
K.slowK ctx run (K.opAt Go.Proofs.Tryz.f18 5 5) [19, 20] [t25, t26] h16 fun t27 h28 =>
K.extK t27 0 fun t29 =>
K.extK t27 1 fun t30 =>
K.allocK (K.zN ctx 61) (K.zT ctx 61) h28 fun t31 h32 =>
K.stsK 7 t31 t29 h32 fun h33 =>
K.notK t30 fun t34 =>
K.iteV t34 (
K.bldSK ctx 61 [] fun t35 =>
K.stsK 7 t6 t35 h33 fun h36 =>
K.unmarkK [] h36 fun h37 => K.asPtr t6 fun n38 n39 => K.loads h37 n38 n39 7 fun t40 => .ok (.tup [(.agg t40), (.int .i64 (.ofNat 6))]) h37) (
K.nilK t0 fun t41 =>
K.fldK 4 t41 fun t42 =>
K.ldK ctx 76 t42 h33 fun t43 =>
K.ldK ctx 3 t4 h33 fun t44 =>
K.slowK ctx run (K.opAt Go.Proofs.Tryz.f18 8 5) [30, 31] [t43, t44] h33 fun t45 h46 =>
K.ldsK ctx 61 7 t31 h46 fun t47 =>
K.stsK 7 t6 t47 h46 fun h48 =>
K.unmarkK [] h48 fun h49 => K.asPtr t6 fun n50 n51 => K.loads h49 n50 n51 7 fun t52 => .ok (.tup [(.agg t52), (.int .i64 (.ofNat 0))]) h49))))
noncomputable def r19 : K.KRun → List AV → H → K.KR := fun run args h => K.uncons args fun t0 l1 => K.unnil l1 (
K.allocK (K.zN ctx 26) (K.zT ctx 26) h fun t2 h3 =>
K.oK (K.binV ctx .rem 5 true t0 (.int .u8 (.ofNat 39))) fun t4 =>
K.addK (K.binV ctx .add 5 true (.int .u8 (.ofNat 20)) t4) (.int .u8 (.ofNat 20)) t4 fun t5 =>
K.callFK run 43 [(.int .u8 (.ofNat 9)), t5] h3 fun t6 h7 =>
K.stsK 3 t2 t6 h7 fun h8 =>
K.unmarkK [] h8 fun h9 => K.asPtr t2 fun n10 n11 => K.loads h9 n10 n11 3 fun t12 => .ok (.agg t12) h9)
noncomputable def r20 : K.KRun → List AV → H → K.KR := fun run args h => K.uncons args fun t0 l1 => K.unnil l1 (
K.boxK t0 h fun t2 h3 =>
K.fldK 0 t2 fun t4 =>
K.ldK ctx 3 t4 h3 fun t5 =>
K.callFK run 44 [t5, (.int .i64 (.ofNat 1)), (.int .i64 (.ofNat 4))] h3 fun t6 h7 =>
K.letK (fun (t8 : AV) (h9 : H) => K.letK (fun (t11 : AV) (h12 : H) => K.letK (fun (t14 : AV) (h15 : H) => K.pickK t6 t14 (.bool false) fun t17 =>
K.letK (fun (t18 : AV) (h19 : H) => K.letK (fun (t21 : AV) (h22 : H) => K.letK (fun (t24 : AV) (h25 : H) => K.pickK t17 t24 (.bool false) fun t27 =>
K.unmarkK [] h25 fun h28 => .ok t27 h28) fun j26 =>
K.guK true t17 (K.callFK run 44 [t21, (.int .i64 (.ofNat 2)), (.int .i64 (.ofNat 512))] h22 fun t29 h30 =>
j26 t29 h30) (j26 (.tup []) h22)) fun j23 =>
K.guK true t17 (K.ldK ctx 3 t18 h19 fun t31 =>
j23 t31 h19) (j23 (.tup []) h19)) fun j20 =>
K.guK true t17 (K.fldK 2 t2 fun t32 =>
j20 t32 h15) (j20 (.tup []) h15)) fun j16 =>
K.guK true t6 (K.callFK run 44 [t11, (.int .i64 (.ofNat 2)), (.int .i64 (.ofNat 64))] h12 fun t33 h34 =>
j16 t33 h34) (j16 (.tup []) h12)) fun j13 =>
K.guK true t6 (K.ldK ctx 3 t8 h9 fun t35 =>
j13 t35 h9) (j13 (.tup []) h9)) fun j10 =>
K.guK true t6 (K.fldK 1 t2 fun t36 =>
j10 t36 h7) (j10 (.tup []) h7))
noncomputable def r21 : K.KRun → List AV → H → K.KR := fun run args h => K.uncons args fun t0 l1 => K.unnil l1 (
K.boxK t0 h fun t2 h3 =>
K.ldsK ctx 26 3 t2 h3 fun t4 =>
K.callFK run 20 [t4] h3 fun t5 h6 =>
K.notK t5 fun t7 =>
K.iteV t7 (
K.unmarkK [] h6 fun h8 => .ok (.int .i64 (.ofNat 0)) h8) (
K.letK (fun (l9 : List AV) (m10 : List Nat) (h11 : H) => K.uncons l9 fun t13 l14 => K.unnil l14 (
K.unmarkK m10 h11 fun h15 => .ok t13 h15)) fun j12 =>
K.ldsK ctx 26 3 t2 h6 fun t16 =>
K.callFK run 45 [t16] h6 fun t17 h18 =>
K.loopV (nat_lit 1000000) (fun s22 l19 m20 h21 => K.uncons l19 fun t23 l24 => K.uncons l24 fun t25 l26 => K.uncons l26 fun t27 l28 => K.unnil l28 (
K.ltK (K.binV ctx .lss 3 true t27 (.int .i64 (.ofNat 7))) t27 (.int .i64 (.ofNat 7)) fun t29 =>
K.iteV t29 (
K.idxK ctx 105 3 7 t25 t27 fun t30 =>
K.allocK (K.zN ctx 105) (K.zT ctx 105) h21 fun t31 h32 =>
K.stsK 3 t31 t30 h32 fun h33 =>
K.fldK 1 t31 fun t34 =>
K.ldK ctx 3 t34 h33 fun t35 =>
K.fldK 2 t31 fun t36 =>
K.ldK ctx 3 t36 h33 fun t37 =>
K.mulK (K.binV ctx .mul 3 false t35 t37) t35 t37 fun t38 =>
K.addK (K.binV ctx .add 3 false t23 t38) t23 t38 fun t39 =>
K.addK (K.binV ctx .add 3 true t27 (.int .i64 (.ofNat 1))) t27 (.int .i64 (.ofNat 1)) fun t40 =>
s22 [t39, t25, t40] m20 h33) (
j12 [t23] m20 h21))) [(.int .i64 (.ofNat 0)), t17, (.int .i64 (.ofNat 0))] [] h18))
noncomputable def r22 : K.KRun → List AV → H → K.KR := fun run args h => K.uncons args fun t0 l1 => K.uncons l1 fun t2 l3 => K.uncons l3 fun t4 l5 => K.unnil l5 (
K.boxK t0 h fun t6 h7 =>
K.letK (fun (l8 : List AV) (m9 : List Nat) (h10 : H) => K.unnil l8 (
K.unmarkK m9 h10 fun h12 => .ok (.int .i64 (.negSucc 0)) h12)) fun j11 =>
K.ldsK ctx 26 3 t6 h7 fun t13 =>
K.callFK run 45 [t13] h7 fun t14 h15 =>
K.loopV (nat_lit 1000000) (fun s19 l16 m17 h18 => K.uncons l16 fun t20 l21 => K.uncons l21 fun t22 l23 => K.uncons l23 fun t24 l25 => K.uncons l25 fun t26 l27 => K.uncons l27 fun t28 l29 => K.uncons l29 fun t30 l31 => K.unnil l31 (
K.ltK (K.binV ctx .lss 3 true t30 (.int .i64 (.ofNat 7))) t30 (.int .i64 (.ofNat 7)) fun t32 =>
K.iteV t32 (
K.idxK ctx 105 3 7 t28 t30 fun t33 =>
K.allocK (K.zN ctx 105) (K.zT ctx 105) h18 fun t34 h35 =>
K.stsK 3 t34 t33 h35 fun h36 =>
K.fldK 0 t34 fun t37 =>
K.ldK ctx 70 t37 h36 fun t38 =>
K.neK (K.binV ctx .neq 70 false t38 t20) t38 t20 fun t39 =>
K.iteV t39 (
K.fldK 1 t34 fun t40 =>
K.ldK ctx 3 t40 h36 fun t41 =>
K.fldK 2 t34 fun t42 =>
K.ldK ctx 3 t42 h36 fun t43 =>
K.mulK (K.binV ctx .mul 3 false t41 t43) t41 t43 fun t44 =>
K.addK (K.binV ctx .add 3 false t26 t44) t26 t44 fun t45 =>
K.addK (K.binV ctx .add 3 true t30 (.int .i64 (.ofNat 1))) t30 (.int .i64 (.ofNat 1)) fun t46 =>
s19 [t20, t22, t24, t45, t28, t46] m17 h36) (
K.ldsK ctx 26 3 t24 h36 fun t47 =>
K.callFK run 20 [t47] h36 fun t48 h49 =>
K.letK (fun (t50 : AV) (h51 : H) => K.letK (fun (t53 : AV) (h54 : H) => K.letK (fun (t56 : AV) (h57 : H) => K.letK (fun (t59 : AV) (h60 : H) => K.letK (fun (t62 : AV) (h63 : H) => K.pickK t48 t62 (.bool false) fun t65 =>
K.iteV t65 (
K.fldK 1 t34 fun t66 =>
K.ldK ctx 3 t66 h63 fun t67 =>
K.mulK (K.binV ctx .mul 3 false t67 t22) t67 t22 fun t68 =>
K.addK (K.binV ctx .add 3 false t26 t68) t26 t68 fun t69 =>
K.unmarkK m17 h63 fun h70 => .ok t69 h70) (
j11 [] m17 h63)) fun j64 =>
K.guK true t48 (K.callFK run 44 [t50, (.int .i64 (.ofNat 0)), t59] h60 fun t71 h72 =>
j64 t71 h72) (j64 (.tup []) h60)) fun j61 =>
K.guK true t48 (K.subK (K.binV ctx .sub 3 true t56 (.int .i64 (.ofNat 1))) t56 (.int .i64 (.ofNat 1)) fun t73 =>
j61 t73 h57) (j61 (.tup []) h57)) fun j58 =>
K.guK true t48 (K.ldK ctx 3 t53 h54 fun t74 =>
j58 t74 h54) (j58 (.tup []) h54)) fun j55 =>
K.guK true t48 (K.fldK 2 t34 fun t75 =>
j55 t75 h51) (j55 (.tup []) h51)) fun j52 =>
K.guK true t48 (j52 t22 h49) (j52 (.tup []) h49))) (
j11 [] m17 h18))) [t2, t4, t6, (.int .i64 (.ofNat 0)), t14, (.int .i64 (.ofNat 0))] [] h15)
noncomputable def r23 : K.KRun → List AV → H → K.KR := fun run args h => K.uncons args fun t0 l1 => K.unnil l1 (
K.callFK run 46 [t0, (.func (.func 47) [] [])] h fun t2 h3 =>
K.unmarkK [] h3 fun h4 => .ok t2 h4)
noncomputable def r24 : K.KRun → List AV → H → K.KR := fun run args h => K.uncons args fun t0 l1 => K.unnil l1 (
K.ltK (K.binV ctx .lss 3 true t0 (.int .i64 (.ofNat 1))) t0 (.int .i64 (.ofNat 1)) fun t2 =>
K.letK (fun (t3 : AV) (h4 : H) => K.letK (fun (t6 : AV) (h7 : H) => K.pickK t2 (.bool true) t6 fun t9 =>
K.iteV t9 (
K.unmarkK [] h7 fun h10 => .ok (.tup [.nilPtr, (.int .i64 (.ofNat 1))]) h10) (
K.bldSK ctx 118 [(0, t0)] fun t11 =>
K.boxK t11 h7 fun t12 h13 =>
K.unmarkK [] h13 fun h14 => .ok (.tup [t12, (.int .i64 (.ofNat 0))]) h14)) fun j8 =>
K.guK false t2 (K.gtK (K.binV ctx .gtr 3 true t3 (.int .i64 (.ofNat 4))) t3 (.int .i64 (.ofNat 4)) fun t15 =>
j8 t15 h4) (j8 (.tup []) h4)) fun j5 =>
K.guK false t2 (j5 t0 h) (j5 (.tup []) h))
noncomputable def r25 : K.KRun → List AV → H → K.KR := fun run args h => K.uncons args fun t0 l1 => K.uncons l1 fun t2 l3 => K.uncons l3 fun t4 l5 => K.uncons l5 fun t6 l7 => K.unnil l7 (
K.boxK t2 h fun t8 h9 =>
K.eqK (K.binV ctx .eql 38 true t0 .nilPtr) t0 .nilPtr fun t10 =>
K.letK (fun (t11 : AV) (h12 : H) => K.letK (fun (t14 : AV) (h15 : H) => K.pickK t10 (.bool true) t14 fun t17 =>
K.iteV t17 (
K.unmarkK [] h15 fun h18 => .ok (.tup [.nilPtr, (.int .i64 (.ofNat 2))]) h18) (
K.ldsK ctx 26 3 t8 h15 fun t19 =>
K.callFK run 48 [t0, t19, t6] h15 fun t20 h21 =>
K.extK t20 0 fun t22 =>
K.extK t20 1 fun t23 =>
K.neK (K.binV ctx .neq 35 true t23 (.int .i64 (.ofNat 0))) t23 (.int .i64 (.ofNat 0)) fun t24 =>
K.iteV t24 (
K.unmarkK [] h21 fun h25 => .ok (.tup [.nilPtr, t23]) h25) (
K.bldSK ctx 124 [(0, t0), (1, t4), (2, t6), (3, t22)] fun t26 =>
K.boxK t26 h21 fun t27 h28 =>
K.unmarkK [] h28 fun h29 => .ok (.tup [t27, (.int .i64 (.ofNat 0))]) h29))) fun j16 =>
K.guK false t10 (K.eqK (K.binV ctx .eql 72 true t11 .nilPtr) t11 .nilPtr fun t30 =>
j16 t30 h12) (j16 (.tup []) h12)) fun j13 =>
K.guK false t10 (j13 t4 h9) (j13 (.tup []) h9))
end YthlpjeoddenioaaGreatDoorSfM
