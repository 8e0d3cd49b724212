/- PRINTED BY Gen2.lean (own): functions as plain texts, part 2. -/
import Derived.Test.YtbigljebnajniabGreatMfCtx
namespace YtbigljebnajniabGreatMfM
open Go Am
set_option maxRecDepth 100000
noncomputable def r88 : K.KRun → List AV → H → K.KR := fun run args h => K.uncons args fun t0 l1 => K.unnil l1 (
K.lenVK t0 fun t2 =>
K.ltK (K.binV ctx .lss 3 true t2 (.int .i64 (.ofNat 2))) t2 (.int .i64 (.ofNat 2)) fun t3 =>
K.iteV t3 (
K.unmarkK [] h fun h4 => .ok t0 h4) (
K.letK (fun (l5 : List AV) (m6 : List Nat) (h7 : H) => K.uncons l5 fun t9 l10 => K.unnil l10 (
K.unmarkK m6 h7 fun h11 => .ok t9 h11)) fun j8 =>
K.loopV (nat_lit 1000000) (fun s15 l12 m13 h14 => K.uncons l12 fun t16 l17 => K.uncons l17 fun t18 l19 => K.unnil l19 (
K.lenVK t16 fun t20 =>
K.ltK (K.binV ctx .lss 3 false t18 t20) t18 t20 fun t21 =>
K.iteV t21 (
K.letK (fun (l22 : List AV) (m23 : List Nat) (h24 : H) => K.uncons l22 fun t26 l27 => K.uncons l27 fun t28 l29 => K.unnil l29 (
K.addK (K.binV ctx .add 3 true t28 (.int .i64 (.ofNat 1))) t28 (.int .i64 (.ofNat 1)) fun t30 =>
s15 [t26, t30] m23 h24)) fun j25 =>
K.idxSK 1 t16 t18 fun t31 =>
K.ldK ctx 3 t31 h14 fun t32 =>
K.subK (K.binV ctx .sub 3 true t18 (.int .i64 (.ofNat 1))) t18 (.int .i64 (.ofNat 1)) fun t33 =>
K.idxSK 1 t16 t33 fun t34 =>
K.ldK ctx 3 t34 h14 fun t35 =>
K.eqK (K.binV ctx .eql 3 false t32 t35) t32 t35 fun t36 =>
K.iteV t36 (
K.slcK ctx 143 t16 (some t18) none none h14 fun t37 =>
K.letK (fun (l38 : List AV) (m39 : List Nat) (h40 : H) => K.uncons l38 fun t42 l43 => K.uncons l43 fun t44 l45 => K.unnil l45 (
K.slcK ctx 143 t42 (some t44) none none h40 fun t46 =>
K.slowK ctx run (K.opAt Go.Proofs.Tryz.f88 14 3) [56] [t46] h40 fun t47 h48 =>
K.slcK ctx 143 t42 none (some t44) none h48 fun t49 =>
K.unmarkK m39 h48 fun h50 => .ok t49 h50)) fun j41 =>
K.loopV (nat_lit 1000000) (fun s54 l51 m52 h53 => K.uncons l51 fun t55 l56 => K.uncons l56 fun t57 l58 => K.uncons l58 fun t59 l60 => K.uncons l60 fun t61 l62 => K.unnil l62 (
K.lenVK t59 fun t63 =>
K.ltK (K.binV ctx .lss 3 false t61 t63) t61 t63 fun t64 =>
K.iteV t64 (
K.letK (fun (l65 : List AV) (m66 : List Nat) (h67 : H) => K.uncons l65 fun t69 l70 => K.uncons l70 fun t71 l72 => K.uncons l72 fun t73 l74 => K.uncons l74 fun t75 l76 => K.unnil l76 (
K.addK (K.binV ctx .add 3 true t75 (.int .i64 (.ofNat 1))) t75 (.int .i64 (.ofNat 1)) fun t77 =>
s54 [t69, t71, t73, t77] m66 h67)) fun j68 =>
K.idxSK 1 t59 t61 fun t78 =>
K.ldK ctx 3 t78 h53 fun t79 =>
K.subK (K.binV ctx .sub 3 true t61 (.int .i64 (.ofNat 1))) t61 (.int .i64 (.ofNat 1)) fun t80 =>
K.idxSK 1 t59 t80 fun t81 =>
K.ldK ctx 3 t81 h53 fun t82 =>
K.neK (K.binV ctx .neq 3 false t79 t82) t79 t82 fun t83 =>
K.iteV t83 (
K.idxSK 1 t59 t61 fun t84 =>
K.ldK ctx 3 t84 h53 fun t85 =>
K.idxSK 1 t55 t57 fun t86 =>
K.stK t86 t85 h53 fun h87 =>
K.addK (K.binV ctx .add 3 true t57 (.int .i64 (.ofNat 1))) t57 (.int .i64 (.ofNat 1)) fun t88 =>
j68 [t55, t88, t59, t61] m52 h87) (
j68 [t55, t57, t59, t61] m52 h53)) (
j41 [t55, t57] m52 h53))) [t16, t18, t37, (.int .i64 (.ofNat 1))] m13 h14) (
j25 [t16, t18] m13 h14)) (
j8 [t16] m13 h14))) [t0, (.int .i64 (.ofNat 1))] [] h))
noncomputable def r89 : K.KRun → List AV → H → K.KR := fun run args h => K.uncons args fun t0 l1 => K.uncons l1 fun t2 l3 => K.unnil l3 (
K.ldK ctx 46 t0 h fun t4 =>
K.nilK t4 fun t5 =>
K.fldK 0 t5 fun t6 =>
K.ldK ctx 30 t6 h fun t7 =>
K.ldK ctx 3 t2 h fun t8 =>
K.callFK run 33 [t7, t8] h fun t9 h10 =>
K.unmarkK [] h10 fun h11 => .ok t9 h11)
noncomputable def r90 : K.KRun → List AV → H → K.KR := fun run args h => K.unnil args (
K.unmarkK [] h fun h0 => .ok (.int .i64 (.ofNat 264)) h0)
noncomputable def r91 : K.KRun → List AV → H → K.KR := fun run args h => K.uncons args fun t0 l1 => K.uncons l1 fun t2 l3 => K.unnil l3 (
K.boxK t0 h fun t4 h5 =>
K.callFK run 77 [t2] h5 fun t6 h7 =>
K.extK t6 0 fun t8 =>
K.extK t6 1 fun t9 =>
K.extK t6 2 fun t10 =>
K.notK t10 fun t11 =>
K.letK (fun (t12 : AV) (h13 : H) => K.letK (fun (t15 : AV) (h16 : H) => K.letK (fun (t18 : AV) (h19 : H) => K.letK (fun (t21 : AV) (h22 : H) => K.pickK t11 (.bool true) t21 fun t24 =>
K.iteV t24 (
K.unmarkK [] h22 fun h25 => .ok (.tup [.nilSlice, (.int .i64 (.ofNat 4))]) h25) (
K.letK (fun (l26 : List AV) (m27 : List Nat) (h28 : H) => K.uncons l26 fun t30 l31 => K.uncons l31 fun t32 l33 => K.unnil l33 (
K.ldsK ctx 25 3 t30 h28 fun t34 =>
K.callFK run 47 [t34, t32] h28 fun t35 h36 =>
K.notK t35 fun t37 =>
K.iteV t37 (
K.unmarkK m27 h36 fun h38 => .ok (.tup [.nilSlice, (.int .i64 (.ofNat 4))]) h38) (
K.unmarkK m27 h36 fun h39 => .ok (.tup [t32, (.int .i64 (.ofNat 0))]) h39))) fun j29 =>
K.loopV (nat_lit 1000000) (fun s43 l40 m41 h42 => K.uncons l40 fun t44 l45 => K.uncons l45 fun t46 l47 => K.uncons l47 fun t48 l49 => K.uncons l49 fun t50 l51 => K.unnil l51 (
K.lenVK t48 fun t52 =>
K.ltK (K.binV ctx .lss 3 false t50 t52) t50 t52 fun t53 =>
K.iteV t53 (
K.idxSK 1 t48 t50 fun t54 =>
K.ldK ctx 37 t54 h42 fun t55 =>
K.geK (K.binV ctx .geq 37 true t55 (.int .u64 (.ofNat 65536))) t55 (.int .u64 (.ofNat 65536)) fun t56 =>
K.iteV t56 (
K.unmarkK m41 h42 fun h57 => .ok (.tup [.nilSlice, (.int .i64 (.ofNat 4))]) h57) (
K.idxSK 1 t48 t50 fun t58 =>
K.ldK ctx 37 t58 h42 fun t59 =>
K.rK (convA ctx 37 3 t59 h42) fun t60 h61 =>
K.addK (K.binV ctx .add 3 true t50 (.int .i64 (.ofNat 1))) t50 (.int .i64 (.ofNat 1)) fun t62 =>
K.idxSK 1 t48 t62 fun t63 =>
K.ldK ctx 37 t63 h61 fun t64 =>
K.bldSK ctx 52 [(0, t60), (1, t64)] fun t65 =>
K.bslK ctx 52 2 1 [(0, t65)] h61 fun t66 h67 =>
K.appK ctx 52 2 t46 t66 h67 fun t68 h69 =>
K.addK (K.binV ctx .add 3 true t50 (.int .i64 (.ofNat 2))) t50 (.int .i64 (.ofNat 2)) fun t70 =>
s43 [t44, t68, t48, t70] m41 h69)) (
j29 [t44, t46] m41 h42))) [t4, .nilSlice, t8, (.int .i64 (.ofNat 1))] [] h22)) fun j23 =>
K.guK false t11 (K.neK (K.binV ctx .neq 37 false t15 t18) t15 t18 fun t71 =>
j23 t71 h19) (j23 (.tup []) h19)) fun j20 =>
K.guK false t11 (j20 t9 h16) (j20 (.tup []) h16)) fun j17 =>
K.guK false t11 (K.callFK run 74 [t12] h13 fun t72 h73 =>
j17 t72 h73) (j17 (.tup []) h13)) fun j14 =>
K.guK false t11 (j14 t8 h7) (j14 (.tup []) h7))
noncomputable def r92 : K.KRun → List AV → H → K.KR := fun run args h => K.uncons args fun t0 l1 => K.uncons l1 fun t2 l3 => K.unnil l3 (
K.ldK ctx 27 t2 h fun t4 =>
K.lenVK t4 fun t5 =>
K.loopV (nat_lit 1000000) (fun s9 l6 m7 h8 => K.uncons l6 fun t10 l11 => K.uncons l11 fun t12 l13 => K.uncons l13 fun t14 l15 => K.uncons l15 fun t16 l17 => K.unnil l17 (
K.ltK (K.binV ctx .lss 3 false t16 t14) t16 t14 fun t18 =>
K.iteV t18 (
K.idxSK 1 t12 t16 fun t19 =>
K.ldK ctx 37 t19 h8 fun t20 =>
K.callVK run t10 [t20] h8 fun t21 h22 =>
K.notK t21 fun t23 =>
K.iteV t23 (
K.unmarkK m7 h22 fun h24 => .ok (.tup []) h24) (
K.addK (K.binV ctx .add 3 true t16 (.int .i64 (.ofNat 1))) t16 (.int .i64 (.ofNat 1)) fun t25 =>
s9 [t10, t12, t14, t25] m7 h22)) (
K.unmarkK m7 h8 fun h26 => .ok (.tup []) h26))) [t0, t4, t5, (.int .i64 (.ofNat 0))] [] h)
noncomputable def r93 : K.KRun → List AV → H → K.KR := fun run args h => K.uncons args fun t0 l1 => K.uncons l1 fun t2 l3 => K.uncons l3 fun t4 l5 => K.uncons l5 fun t6 l7 => K.unnil l7 (
K.loopV (nat_lit 1000000) (fun s11 l8 m9 h10 => K.uncons l8 fun t12 l13 => K.uncons l13 fun t14 l15 => K.uncons l15 fun t16 l17 => K.uncons l17 fun t18 l19 => K.uncons l19 fun t20 l21 => K.uncons l21 fun t22 l23 => K.unnil l23 (
K.subK (K.binV ctx .sub 3 false t16 t14) t16 t14 fun t24 =>
K.leK (K.binV ctx .leq 3 true t24 (.int .i64 (.ofNat 12))) t24 (.int .i64 (.ofNat 12)) fun t25 =>
K.iteV t25 (
K.callFK run 95 [t12, t14, t16] h10 fun t26 h27 =>
K.unmarkK m9 h27 fun h28 => .ok (.tup []) h28) (
K.eqK (K.binV ctx .eql 3 true t18 (.int .i64 (.ofNat 0))) t18 (.int .i64 (.ofNat 0)) fun t29 =>
K.iteV t29 (
K.callFK run 96 [t12, t14, t16] h10 fun t30 h31 =>
K.unmarkK m9 h31 fun h32 => .ok (.tup []) h32) (
K.letK (fun (l33 : List AV) (m34 : List Nat) (h35 : H) => K.uncons l33 fun t37 l38 => K.uncons l38 fun t39 l40 => K.uncons l40 fun t41 l42 => K.uncons l42 fun t43 l44 => K.uncons l44 fun t45 l46 => K.uncons l46 fun t47 l48 => K.uncons l48 fun t49 l50 => K.unnil l50 (
K.callFK run 98 [t37, t39, t41] h35 fun t51 h52 =>
K.extK t51 0 fun t53 =>
K.extK t51 1 fun t54 =>
K.letK (fun (l55 : List AV) (m56 : List Nat) (h57 : H) => K.uncons l55 fun t59 l60 => K.uncons l60 fun t61 l62 => K.uncons l62 fun t63 l64 => K.uncons l64 fun t65 l66 => K.uncons l66 fun t67 l68 => K.uncons l68 fun t69 l70 => K.uncons l70 fun t71 l72 => K.uncons l72 fun t73 l74 => K.uncons l74 fun t75 l76 => K.unnil l76 (
K.letK (fun (l77 : List AV) (m78 : List Nat) (h79 : H) => K.uncons l77 fun t81 l82 => K.uncons l82 fun t83 l84 => K.uncons l84 fun t85 l86 => K.uncons l86 fun t87 l88 => K.uncons l88 fun t89 l90 => K.uncons l90 fun t91 l92 => K.uncons l92 fun t93 l94 => K.uncons l94 fun t95 l96 => K.unnil l96 (
K.gtK (K.binV ctx .gtr 3 true t83 (.int .i64 (.ofNat 0))) t83 (.int .i64 (.ofNat 0)) fun t97 =>
K.letK (fun (t98 : AV) (h99 : H) => K.letK (fun (t101 : AV) (h102 : H) => K.letK (fun (t104 : AV) (h105 : H) => K.letK (fun (t107 : AV) (h108 : H) => K.letK (fun (t110 : AV) (h111 : H) => K.letK (fun (t113 : AV) (h114 : H) => K.letK (fun (t116 : AV) (h117 : H) => K.letK (fun (t119 : AV) (h120 : H) => K.letK (fun (t122 : AV) (h123 : H) => K.letK (fun (t125 : AV) (h126 : H) => K.letK (fun (t128 : AV) (h129 : H) => K.pickK t97 t128 (.bool false) fun t131 =>
K.iteV t131 (
K.callFK run 102 [t81, t83, t85, t95] h129 fun t132 h133 =>
s11 [t81, t132, t85, t87, t89, t91] m78 h133) (
K.callFK run 103 [t81, t83, t85, t95] h129 fun t134 h135 =>
K.extK t134 0 fun t136 =>
K.extK t134 1 fun t137 =>
K.subK (K.binV ctx .sub 3 false t136 t83) t136 t83 fun t138 =>
K.subK (K.binV ctx .sub 3 false t85 t136) t85 t136 fun t139 =>
K.oK (K.binV ctx .quo 3 true t93 (.int .i64 (.ofNat 8))) fun t140 =>
K.ltK (K.binV ctx .lss 3 false t138 t139) t138 t139 fun t141 =>
K.iteV t141 (
K.geK (K.binV ctx .geq 3 false t138 t140) t138 t140 fun t142 =>
K.callFK run 93 [t81, t83, t136, t87] h135 fun t143 h144 =>
K.addK (K.binV ctx .add 3 true t136 (.int .i64 (.ofNat 1))) t136 (.int .i64 (.ofNat 1)) fun t145 =>
s11 [t81, t145, t85, t87, t142, t137] m78 h144) (
K.geK (K.binV ctx .geq 3 false t139 t140) t139 t140 fun t146 =>
K.addK (K.binV ctx .add 3 true t136 (.int .i64 (.ofNat 1))) t136 (.int .i64 (.ofNat 1)) fun t147 =>
K.callFK run 93 [t81, t147, t85, t87] h135 fun t148 h149 =>
s11 [t81, t83, t136, t87, t146, t137] m78 h149))) fun j130 =>
K.guK true t97 (K.notK t125 fun t150 =>
j130 t150 h126) (j130 (.tup []) h126)) fun j127 =>
K.guK true t97 (K.callFK run 101 [t110, t122] h123 fun t151 h152 =>
j127 t151 h152) (j127 (.tup []) h123)) fun j124 =>
K.guK true t97 (K.ldK ctx 3 t119 h120 fun t153 =>
j124 t153 h120) (j124 (.tup []) h120)) fun j121 =>
K.guK true t97 (K.idxSK 1 t113 t116 fun t154 =>
j121 t154 h117) (j121 (.tup []) h117)) fun j118 =>
K.guK true t97 (j118 t95 h114) (j118 (.tup []) h114)) fun j115 =>
K.guK true t97 (j115 t81 h111) (j115 (.tup []) h111)) fun j112 =>
K.guK true t97 (K.ldK ctx 3 t107 h108 fun t155 =>
j112 t155 h108) (j112 (.tup []) h108)) fun j109 =>
K.guK true t97 (K.idxSK 1 t98 t104 fun t156 =>
j109 t156 h105) (j109 (.tup []) h105)) fun j106 =>
K.guK true t97 (K.subK (K.binV ctx .sub 3 true t101 (.int .i64 (.ofNat 1))) t101 (.int .i64 (.ofNat 1)) fun t157 =>
j106 t157 h102) (j106 (.tup []) h102)) fun j103 =>
K.guK true t97 (j103 t83 h99) (j103 (.tup []) h99)) fun j100 =>
K.guK true t97 (j100 t81 h79) (j100 (.tup []) h79))) fun j80 =>
K.letK (fun (t158 : AV) (h159 : H) => K.pickK t67 t158 (.bool false) fun t161 =>
K.letK (fun (t162 : AV) (h163 : H) => K.letK (fun (t165 : AV) (h166 : H) => K.pickK t161 t165 (.bool false) fun t168 =>
K.iteV t168 (
K.callFK run 100 [t59, t61, t63] h166 fun t169 h170 =>
K.iteV t169 (
K.unmarkK m56 h170 fun h171 => .ok (.tup []) h171) (
j80 [t59, t61, t63, t65, t67, t69, t71, t73] m56 h170)) (
j80 [t59, t61, t63, t65, t67, t69, t71, t73] m56 h166)) fun j167 =>
K.guK true t161 (K.eqK (K.binV ctx .eql 154 true t162 (.int .i64 (.ofNat 1))) t162 (.int .i64 (.ofNat 1)) fun t172 =>
j167 t172 h163) (j167 (.tup []) h163)) fun j164 =>
K.guK true t161 (j164 t75 h159) (j164 (.tup []) h159)) fun j160 =>
K.guK true t67 (j160 t69 h57) (j160 (.tup []) h57))) fun j58 =>
K.eqK (K.binV ctx .eql 154 true t54 (.int .i64 (.ofNat 2))) t54 (.int .i64 (.ofNat 2)) fun t173 =>
K.iteV t173 (
K.callFK run 99 [t37, t39, t41] h52 fun t174 h175 =>
K.subK (K.binV ctx .sub 3 true t41 (.int .i64 (.ofNat 1))) t41 (.int .i64 (.ofNat 1)) fun t176 =>
K.subK (K.binV ctx .sub 3 false t53 t39) t53 t39 fun t177 =>
K.subK (K.binV ctx .sub 3 false t176 t177) t176 t177 fun t178 =>
j58 [t37, t39, t41, t43, t45, t47, t49, t178, (.int .i64 (.ofNat 1))] m34 h175) (
j58 [t37, t39, t41, t43, t45, t47, t49, t53, t54] m34 h52))) fun j36 =>
K.notK t20 fun t179 =>
K.iteV t179 (
K.callFK run 97 [t12, t14, t16] h10 fun t180 h181 =>
K.subK (K.binV ctx .sub 3 true t18 (.int .i64 (.ofNat 1))) t18 (.int .i64 (.ofNat 1)) fun t182 =>
j36 [t12, t14, t16, t182, t20, t22, t24] m9 h181) (
j36 [t12, t14, t16, t18, t20, t22, t24] m9 h10))))) [t0, t2, t4, t6, (.bool true), (.bool true)] [] h)
noncomputable def r94 : K.KRun → List AV → H → K.KR := fun run args h => K.uncons args fun t0 l1 => K.unnil l1 (
K.iteV (.bool false) (
K.rK (convA ctx 132 163 t0 h) fun t2 h3 =>
K.callFK run 104 [t2] h3 fun t4 h5 =>
K.unmarkK [] h5 fun h6 => .ok t4 h6) (
K.callFK run 105 [t0] h fun t7 h8 =>
K.unmarkK [] h8 fun h9 => .ok t7 h9))
noncomputable def r95 : K.KRun → List AV → H → K.KR := fun run args h => K.uncons args fun t0 l1 => K.uncons l1 fun t2 l3 => K.uncons l3 fun t4 l5 => K.unnil l5 (
K.addK (K.binV ctx .add 3 true t2 (.int .i64 (.ofNat 1))) t2 (.int .i64 (.ofNat 1)) fun t6 =>
K.loopV (nat_lit 1000000) (fun s10 l7 m8 h9 => K.uncons l7 fun t11 l12 => K.uncons l12 fun t13 l14 => K.uncons l14 fun t15 l16 => K.uncons l16 fun t17 l18 => K.unnil l18 (
K.ltK (K.binV ctx .lss 3 false t17 t15) t17 t15 fun t19 =>
K.iteV t19 (
K.letK (fun (l20 : List AV) (m21 : List Nat) (h22 : H) => K.uncons l20 fun t24 l25 => K.uncons l25 fun t26 l27 => K.uncons l27 fun t28 l29 => K.uncons l29 fun t30 l31 => K.unnil l31 (
K.addK (K.binV ctx .add 3 true t30 (.int .i64 (.ofNat 1))) t30 (.int .i64 (.ofNat 1)) fun t32 =>
s10 [t24, t26, t28, t32] m21 h22)) fun j23 =>
K.loopV (nat_lit 1000000) (fun s36 l33 m34 h35 => K.uncons l33 fun t37 l38 => K.uncons l38 fun t39 l40 => K.uncons l40 fun t41 l42 => K.uncons l42 fun t43 l44 => K.uncons l44 fun t45 l46 => K.unnil l46 (
K.gtK (K.binV ctx .gtr 3 false t45 t39) t45 t39 fun t47 =>
K.letK (fun (t48 : AV) (h49 : H) => K.letK (fun (t51 : AV) (h52 : H) => K.letK (fun (t54 : AV) (h55 : H) => K.letK (fun (t57 : AV) (h58 : H) => K.letK (fun (t60 : AV) (h61 : H) => K.letK (fun (t63 : AV) (h64 : H) => K.letK (fun (t66 : AV) (h67 : H) => K.letK (fun (t69 : AV) (h70 : H) => K.letK (fun (t72 : AV) (h73 : H) => K.letK (fun (t75 : AV) (h76 : H) => K.pickK t47 t75 (.bool false) fun t78 =>
K.iteV t78 (
K.subK (K.binV ctx .sub 3 true t45 (.int .i64 (.ofNat 1))) t45 (.int .i64 (.ofNat 1)) fun t79 =>
K.subK (K.binV ctx .sub 3 true t45 (.int .i64 (.ofNat 1))) t45 (.int .i64 (.ofNat 1)) fun t80 =>
K.idxSK 1 t37 t80 fun t81 =>
K.ldK ctx 3 t81 h76 fun t82 =>
K.idxSK 1 t37 t45 fun t83 =>
K.ldK ctx 3 t83 h76 fun t84 =>
K.idxSK 1 t37 t45 fun t85 =>
K.stK t85 t82 h76 fun h86 =>
K.idxSK 1 t37 t79 fun t87 =>
K.stK t87 t84 h86 fun h88 =>
K.subK (K.binV ctx .sub 3 true t45 (.int .i64 (.ofNat 1))) t45 (.int .i64 (.ofNat 1)) fun t89 =>
s36 [t37, t39, t41, t43, t89] m34 h88) (
j23 [t37, t39, t41, t43] m34 h76)) fun j77 =>
K.guK true t47 (K.callFK run 101 [t57, t72] h73 fun t90 h91 =>
j77 t90 h91) (j77 (.tup []) h73)) fun j74 =>
K.guK true t47 (K.ldK ctx 3 t69 h70 fun t92 =>
j74 t92 h70) (j74 (.tup []) h70)) fun j71 =>
K.guK true t47 (K.idxSK 1 t60 t66 fun t93 =>
j71 t93 h67) (j71 (.tup []) h67)) fun j68 =>
K.guK true t47 (K.subK (K.binV ctx .sub 3 true t63 (.int .i64 (.ofNat 1))) t63 (.int .i64 (.ofNat 1)) fun t94 =>
j68 t94 h64) (j68 (.tup []) h64)) fun j65 =>
K.guK true t47 (j65 t45 h61) (j65 (.tup []) h61)) fun j62 =>
K.guK true t47 (j62 t37 h58) (j62 (.tup []) h58)) fun j59 =>
K.guK true t47 (K.ldK ctx 3 t54 h55 fun t95 =>
j59 t95 h55) (j59 (.tup []) h55)) fun j56 =>
K.guK true t47 (K.idxSK 1 t48 t51 fun t96 =>
j56 t96 h52) (j56 (.tup []) h52)) fun j53 =>
K.guK true t47 (j53 t45 h49) (j53 (.tup []) h49)) fun j50 =>
K.guK true t47 (j50 t37 h35) (j50 (.tup []) h35))) [t11, t13, t15, t17, t17] m8 h9) (
K.unmarkK m8 h9 fun h97 => .ok (.tup []) h97))) [t0, t2, t4, t6] [] h)
noncomputable def r101 : K.KRun → List AV → H → K.KR := fun run args h => K.uncons args fun t0 l1 => K.uncons l1 fun t2 l3 => K.unnil l3 (
K.callFK run 111 [t0] h fun t4 h5 =>
K.letK (fun (t6 : AV) (h7 : H) => K.letK (fun (t9 : AV) (h10 : H) => K.letK (fun (t12 : AV) (h13 : H) => K.pickK t4 t12 (.bool false) fun t15 =>
K.letK (fun (t16 : AV) (h17 : H) => K.letK (fun (t19 : AV) (h20 : H) => K.letK (fun (t22 : AV) (h23 : H) => K.pickK t15 (.bool true) t22 fun t25 =>
K.unmarkK [] h23 fun h26 => .ok t25 h26) fun j24 =>
K.guK false t15 (K.ltK (K.binV ctx .lss 3 false t16 t19) t16 t19 fun t27 =>
j24 t27 h20) (j24 (.tup []) h20)) fun j21 =>
K.guK false t15 (j21 t2 h17) (j21 (.tup []) h17)) fun j18 =>
K.guK false t15 (j18 t0 h13) (j18 (.tup []) h13)) fun j14 =>
K.guK true t4 (K.notK t9 fun t28 =>
j14 t28 h10) (j14 (.tup []) h10)) fun j11 =>
K.guK true t4 (K.callFK run 111 [t6] h7 fun t29 h30 =>
j11 t29 h30) (j11 (.tup []) h7)) fun j8 =>
K.guK true t4 (j8 t2 h5) (j8 (.tup []) h5))
noncomputable def r105 : K.KRun → List AV → H → K.KR := fun run args h => K.uncons args fun t0 l1 => K.unnil l1 (
K.letK (fun (l2 : List AV) (m3 : List Nat) (h4 : H) => K.uncons l2 fun t6 l7 => K.uncons l7 fun t8 l9 => K.unnil l9 (
K.letK (fun (l10 : List AV) (m11 : List Nat) (h12 : H) => K.uncons l10 fun t14 l15 => K.uncons l15 fun t16 l17 => K.unnil l17 (
K.letK (fun (l18 : List AV) (m19 : List Nat) (h20 : H) => K.uncons l18 fun t22 l23 => K.uncons l23 fun t24 l25 => K.unnil l25 (
K.rK (convA ctx 37 5 t22 h20) fun t26 h27 =>
K.idxTK (.str [0, 1, 2, 2, 3, 3, 3, 3, 4, 4, 4, 4, 4, 4, 4, 4, 5, 5, 5, 5, 5, 5, 5, 5, 5, 5, 5, 5, 5, 5, 5, 5, 6, 6, 6, 6, 6, 6, 6, 6, 6, 6, 6, 6, 6, 6, 6, 6, 6, 6, 6, 6, 6, 6, 6, 6, 6, 6, 6, 6, 6, 6, 6, 6, 7, 7, 7, 7, 7, 7, 7, 7, 7, 7, 7, 7, 7, 7, 7, 7, 7, 7, 7, 7, 7, 7, 7, 7, 7, 7, 7, 7, 7, 7, 7, 7, 7, 7, 7, 7, 7, 7, 7, 7, 7, 7, 7, 7, 7, 7, 7, 7, 7, 7, 7, 7, 7, 7, 7, 7, 7, 7, 7, 7, 7, 7, 7, 7, 8, 8, 8, 8, 8, 8, 8, 8, 8, 8, 8, 8, 8, 8, 8, 8, 8, 8, 8, 8, 8, 8, 8, 8, 8, 8, 8, 8, 8, 8, 8, 8, 8, 8, 8, 8, 8, 8, 8, 8, 8, 8, 8, 8, 8, 8, 8, 8, 8, 8, 8, 8, 8, 8, 8, 8, 8, 8, 8, 8, 8, 8, 8, 8, 8, 8, 8, 8, 8, 8, 8, 8, 8, 8, 8, 8, 8, 8, 8, 8, 8, 8, 8, 8, 8, 8, 8, 8, 8, 8, 8, 8, 8, 8, 8, 8, 8, 8, 8, 8, 8, 8, 8, 8, 8, 8, 8, 8, 8, 8, 8, 8, 8, 8, 8, 8, 8, 8, 8, 8, 8, 8, 8, 8, 8, 8, 8, 8]) t26 fun t28 =>
K.rK (convA ctx 5 3 t28 h27) fun t29 h30 =>
K.addK (K.binV ctx .add 3 false t24 t29) t24 t29 fun t31 =>
K.unmarkK m19 h30 fun h32 => .ok t31 h32)) fun j21 =>
K.geK (K.binV ctx .geq 37 true t14 (.int .u64 (.ofNat 256))) t14 (.int .u64 (.ofNat 256)) fun t33 =>
K.iteV t33 (
K.oK (K.binV ctx .shr 37 true t14 (.int .u64 (.ofNat 8))) fun t34 =>
K.addK (K.binV ctx .add 3 true t16 (.int .i64 (.ofNat 8))) t16 (.int .i64 (.ofNat 8)) fun t35 =>
j21 [t34, t35] m11 h12) (
j21 [t14, t16] m11 h12))) fun j13 =>
K.geK (K.binV ctx .geq 37 true t6 (.int .u64 (.ofNat 65536))) t6 (.int .u64 (.ofNat 65536)) fun t36 =>
K.iteV t36 (
K.oK (K.binV ctx .shr 37 true t6 (.int .u64 (.ofNat 16))) fun t37 =>
K.addK (K.binV ctx .add 3 true t8 (.int .i64 (.ofNat 16))) t8 (.int .i64 (.ofNat 16)) fun t38 =>
j13 [t37, t38] m3 h4) (
j13 [t6, t8] m3 h4))) fun j5 =>
K.geK (K.binV ctx .geq 37 true t0 (.int .u64 (.ofNat 4294967296))) t0 (.int .u64 (.ofNat 4294967296)) fun t39 =>
K.iteV t39 (
K.oK (K.binV ctx .shr 37 true t0 (.int .u64 (.ofNat 32))) fun t40 =>
j5 [t40, (.int .i64 (.ofNat 32))] [] h) (
j5 [t0, (.int .i64 (.ofNat 0))] [] h))
noncomputable def r111 : K.KRun → List AV → H → K.KR := fun run args h => K.uncons args fun t0 l1 => K.unnil l1 (
K.neK (K.binV ctx .neq 3 false t0 t0) t0 t0 fun t2 =>
K.unmarkK [] h fun h3 => .ok t2 h3)
noncomputable def y1 : K.RnF := fun run l args env h => K.uncons args fun t0 l1 => K.uncons l1 fun t2 l3 => K.unnil l3 (
K.opt (K.get env 2) fun t4 => K.opt (K.get env 4) fun t5 => K.begR l h fun h6 =>
K.ldK ctx 30 t4 h6 fun t7 =>
K.callFK run 27 [t7, t0, t2] h6 fun t8 h9 =>
K.neK (K.binV ctx .neq 32 true t8 (.int .i64 (.ofNat 0))) t8 (.int .i64 (.ofNat 0)) fun t10 =>
K.iteV t10 (
K.stK t5 t8 h9 fun h11 =>
K.finR l h11 .done (some .ret) false) (
K.finR l h9 .ready none true))
noncomputable def y2 : K.RnF := fun run l args env h => K.uncons args fun t0 l1 => K.unnil l1 (
K.opt (K.get env 2) fun t2 => K.begR l h fun h3 =>
K.ldK ctx 3 t2 h3 fun t4 =>
K.addK (K.binV ctx .add 3 true t4 (.int .i64 (.ofNat 1))) t4 (.int .i64 (.ofNat 1)) fun t5 =>
K.stK t2 t5 h3 fun h6 =>
K.finR l h6 .ready none true)
noncomputable def y3 : K.RnF := fun run l args env h => K.uncons args fun t0 l1 => K.unnil l1 (
K.begR l h fun h2 =>
K.nilK t0 fun t3 =>
K.fldK 2 t3 fun t4 =>
K.fldK 1 t4 fun t5 =>
K.ldK ctx 4 t5 h2 fun t6 =>
K.notK t6 fun t7 =>
K.iteV t7 (
K.finR l h2 .ready none true) (
K.nilK t0 fun t8 =>
K.fldK 2 t8 fun t9 =>
K.fldK 2 t9 fun t10 =>
K.ldK ctx 4 t10 h2 fun t11 =>
K.nilK t0 fun t12 =>
K.fldK 2 t12 fun t13 =>
K.fldK 3 t13 fun t14 =>
K.ldK ctx 37 t14 h2 fun t15 =>
K.callFK run 64 [t0, t15] h2 fun t16 h17 =>
K.nilK t0 fun t18 =>
K.fldK 2 t18 fun t19 =>
K.fldK 0 t19 fun t20 =>
K.stK t20 t11 h17 fun h21 =>
K.nilK t0 fun t22 =>
K.fldK 2 t22 fun t23 =>
K.fldK 2 t23 fun t24 =>
K.stK t24 t11 h21 fun h25 =>
K.finR l h25 .ready none true))
noncomputable def y4 : K.RnF := fun run l args env h => K.uncons args fun t0 l1 => K.unnil l1 (
K.opt (K.get env 5) fun t2 => K.begR l h fun h3 =>
K.ldK ctx 118 t2 h3 fun t4 =>
K.callVK run t4 [t0] h3 fun t5 h6 =>
K.finR l h6 .ready none true)
noncomputable def y5 : K.RnF := fun run l args env h => K.uncons args fun t0 l1 => K.unnil l1 (
K.opt (K.get env 4) fun t2 => K.begR l h fun h3 =>
K.ldK ctx 117 t2 h3 fun t4 =>
K.callVK run t4 [t0] h3 fun t5 h6 =>
K.finR l h6 .ready none true)
end YtbigljebnajniabGreatMfM
