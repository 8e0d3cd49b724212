/- PRINTED BY Gen2.lean (own): functions as plain texts, part 0. -/
import Derived.Test.YtbigljebnajniabGreatMfCtx
namespace YtbigljebnajniabGreatMfM
open Go Am
set_option maxRecDepth 100000
noncomputable def r3 : K.KRun → List AV → H → K.KR := fun run args h => K.uncons args fun t0 l1 => K.uncons l1 fun t2 l3 => K.uncons l3 fun t4 l5 => K.unnil l5 (
K.lenVK t4 fun t6 =>
K.gtK (K.binV ctx .gtr 3 true t6 (.int .i64 (.ofNat 60))) t6 (.int .i64 (.ofNat 60)) fun t7 =>
K.iteV t7 (
K.callFK run 4 [] h fun t8 h9 =>
K.unmarkK [] h9 fun h10 => .ok t8 h10) (
K.callFK run 5 [t0, t2] h fun t11 h12 =>
K.allocK (K.zN ctx 25) (K.zT ctx 25) h12 fun t13 h14 =>
K.stsK 3 t13 t11 h14 fun h15 =>
K.ldsK ctx 25 3 t13 h15 fun t16 =>
K.callFK run 6 [t16, t4, (.int .u16 (.ofNat 0))] h15 fun t17 h18 =>
K.callFK run 7 [t17] h18 fun t19 h20 =>
K.eqK (K.binV ctx .eql 30 true t19 .nilPtr) t19 .nilPtr fun t21 =>
K.letK (fun (t22 : AV) (h23 : H) => K.letK (fun (t25 : AV) (h26 : H) => K.letK (fun (t28 : AV) (h29 : H) => K.letK (fun (t31 : AV) (h32 : H) => K.pickK t21 (.bool true) t31 fun t34 =>
K.iteV t34 (
K.unmarkK [] h32 fun h35 => .ok (.bool false) h35) (
K.ldsK ctx 25 3 t13 h32 fun t36 =>
K.callFK run 9 [t36] h32 fun t37 h38 =>
K.callFK run 10 [t19] h38 fun t39 h40 =>
K.lenVK t37 fun t41 =>
K.lenVK t39 fun t42 =>
K.neK (K.binV ctx .neq 3 false t41 t42) t41 t42 fun t43 =>
K.letK (fun (t44 : AV) (h45 : H) => K.letK (fun (t47 : AV) (h48 : H) => K.letK (fun (t50 : AV) (h51 : H) => K.pickK t43 (.bool true) t50 fun t53 =>
K.iteV t53 (
K.unmarkK [] h51 fun h54 => .ok (.bool false) h54) (
K.letK (fun (l55 : List AV) (m56 : List Nat) (h57 : H) => K.uncons l55 fun t59 l60 => K.uncons l60 fun t61 l62 => K.unnil l62 (
K.callFK run 12 [t61] h57 fun t63 h64 =>
K.extK t63 0 fun t65 =>
K.extK t63 1 fun t66 =>
K.eqK (K.binV ctx .eql 32 true t66 (.int .i64 (.ofNat 0))) t66 (.int .i64 (.ofNat 0)) fun t67 =>
K.letK (fun (t68 : AV) (h69 : H) => K.letK (fun (t71 : AV) (h72 : H) => K.pickK t67 t71 (.bool false) fun t74 =>
K.letK (fun (t75 : AV) (h76 : H) => K.letK (fun (t78 : AV) (h79 : H) => K.letK (fun (t81 : AV) (h82 : H) => K.pickK t74 t81 (.bool false) fun t84 =>
K.letK (fun (t85 : AV) (h86 : H) => K.guK true t84 (K.ldsK ctx 25 3 t59 h86 fun t88 =>
K.letK (fun (t89 : AV) (h90 : H) => K.letK (fun (t92 : AV) (h93 : H) => K.pickK t84 t92 (.bool false) fun t95 =>
K.letK (fun (t96 : AV) (h97 : H) => K.pickK t95 t96 (.bool false) fun t99 =>
K.unmarkK m56 h97 fun h100 => .ok t99 h100) fun j98 =>
K.guK true t95 (K.callFK run 4 [] h93 fun t101 h102 =>
j98 t101 h102) (j98 (.tup []) h93)) fun j94 =>
K.guK true t84 (K.eqK (K.binV ctx .eql 25 false t89 t88) t89 t88 fun t103 =>
j94 t103 h90) (j94 (.tup []) h90)) fun j91 =>
K.guK true t84 (K.callFK run 14 [t85] h86 fun t104 h105 =>
K.ldsK ctx 25 3 t59 h105 fun t106 =>
K.req (AV.same t88 t106) (
j91 t104 h105)) (j91 (.tup []) h86)) (K.letK (fun (t107 : AV) (h108 : H) => K.letK (fun (t110 : AV) (h111 : H) => K.pickK t84 t110 (.bool false) fun t113 =>
K.letK (fun (t114 : AV) (h115 : H) => K.pickK t113 t114 (.bool false) fun t117 =>
K.unmarkK m56 h115 fun h118 => .ok t117 h118) fun j116 =>
K.guK true t113 (K.callFK run 4 [] h111 fun t119 h120 =>
j116 t119 h120) (j116 (.tup []) h111)) fun j112 =>
K.guK true t84 (K.eqK (K.binV ctx .eql 25 false t107 (.tup [])) t107 (.tup []) fun t121 =>
j112 t121 h108) (j112 (.tup []) h108)) fun j109 =>
K.guK true t84 (K.callFK run 14 [t85] h86 fun t122 h123 =>
j109 t122 h123) (j109 (.tup []) h86))) fun j87 =>
K.guK true t84 (j87 t65 h82) (j87 (.tup []) h82)) fun j83 =>
K.guK true t74 (K.eqK (K.binV ctx .eql 3 true t78 (.int .i64 (.ofNat 0))) t78 (.int .i64 (.ofNat 0)) fun t124 =>
j83 t124 h79) (j83 (.tup []) h79)) fun j80 =>
K.guK true t74 (K.callFK run 13 [t75] h76 fun t125 h126 =>
j80 t125 h126) (j80 (.tup []) h76)) fun j77 =>
K.guK true t74 (j77 t65 h72) (j77 (.tup []) h72)) fun j73 =>
K.guK true t67 (K.neK (K.binV ctx .neq 38 true t68 .nilPtr) t68 .nilPtr fun t127 =>
j73 t127 h69) (j73 (.tup []) h69)) fun j70 =>
K.guK true t67 (j70 t65 h64) (j70 (.tup []) h64))) fun j58 =>
K.loopV (nat_lit 1000000) (fun s131 l128 m129 h130 => K.uncons l128 fun t132 l133 => K.uncons l133 fun t134 l135 => K.uncons l135 fun t136 l137 => K.uncons l137 fun t138 l139 => K.uncons l139 fun t140 l141 => K.unnil l141 (
K.lenVK t138 fun t142 =>
K.ltK (K.binV ctx .lss 3 false t140 t142) t140 t142 fun t143 =>
K.iteV t143 (
K.idxSK 1 t138 t140 fun t144 =>
K.ldK ctx 37 t144 h130 fun t145 =>
K.idxSK 1 t136 t140 fun t146 =>
K.ldK ctx 37 t146 h130 fun t147 =>
K.neK (K.binV ctx .neq 37 false t145 t147) t145 t147 fun t148 =>
K.iteV t148 (
K.unmarkK m129 h130 fun h149 => .ok (.bool false) h149) (
K.addK (K.binV ctx .add 3 true t140 (.int .i64 (.ofNat 1))) t140 (.int .i64 (.ofNat 1)) fun t150 =>
s131 [t132, t134, t136, t138, t150] m129 h130)) (
j58 [t132, t134] m129 h130))) [t13, t19, t37, t39, (.int .i64 (.ofNat 0))] [] h51)) fun j52 =>
K.guK false t43 (K.neK (K.binV ctx .neq 3 true t47 (.int .i64 (.ofNat 0))) t47 (.int .i64 (.ofNat 0)) fun t151 =>
j52 t151 h48) (j52 (.tup []) h48)) fun j49 =>
K.guK false t43 (K.callFK run 11 [t44] h45 fun t152 h153 =>
j49 t152 h153) (j49 (.tup []) h45)) fun j46 =>
K.guK false t43 (j46 t19 h40) (j46 (.tup []) h40))) fun j33 =>
K.guK false t21 (K.neK (K.binV ctx .neq 32 true t28 (.int .i64 (.ofNat 0))) t28 (.int .i64 (.ofNat 0)) fun t154 =>
j33 t154 h29) (j33 (.tup []) h29)) fun j30 =>
K.guK false t21 (K.callFK run 8 [t22, t25] h26 fun t155 h156 =>
j30 t155 h156) (j30 (.tup []) h26)) fun j27 =>
K.guK false t21 (K.ldsK ctx 25 3 t13 h23 fun t157 =>
j27 t157 h23) (j27 (.tup []) h23)) fun j24 =>
K.guK false t21 (j24 t19 h20) (j24 (.tup []) h20)))
noncomputable def r5 : K.KRun → List AV → H → K.KR := fun run args h => K.uncons args fun t0 l1 => K.uncons l1 fun t2 l3 => K.unnil l3 (
K.allocK (K.zN ctx 25) (K.zT ctx 25) h fun t4 h5 =>
K.callFK run 25 [t2] h5 fun t6 h7 =>
K.allocK (K.zN ctx 25) (K.zT ctx 25) h7 fun t8 h9 =>
K.stsK 3 t8 t6 h9 fun h10 =>
K.rK (convA ctx 5 3 t0 h10) fun t11 h12 =>
K.oK (K.binV ctx .rem 3 true t11 (.int .i64 (.ofNat 4))) fun t13 =>
K.addK (K.binV ctx .add 3 true (.int .i64 (.ofNat 1)) t13) (.int .i64 (.ofNat 1)) t13 fun t14 =>
K.fldK 0 t8 fun t15 =>
K.stK t15 t14 h12 fun h16 =>
K.ldsK ctx 25 3 t8 h16 fun t17 =>
K.stsK 3 t4 t17 h16 fun h18 =>
K.unmarkK [] h18 fun h19 => K.asPtr t4 fun n20 n21 => K.loads h19 n20 n21 3 fun t22 => .ok (.agg t22) h19)
noncomputable def r6 : K.KRun → List AV → H → K.KR := fun run args h => K.uncons args fun t0 l1 => K.uncons l1 fun t2 l3 => K.uncons l3 fun t4 l5 => K.unnil l5 (
K.boxK t0 h fun t6 h7 =>
K.ldsK ctx 25 3 t6 h7 fun t8 =>
K.callFK run 26 [t8] h7 fun t9 h10 =>
K.letK (fun (l11 : List AV) (m12 : List Nat) (h13 : H) => K.uncons l11 fun t15 l16 => K.uncons l16 fun t17 l18 => K.unnil l18 (
K.lenVK t17 fun t19 =>
K.rK (convA ctx 29 3 t15 h13) fun t20 h21 =>
K.lenVK t17 fun t22 =>
K.slowK ctx run (K.opAt Go.Proofs.Tryz.f6 6 7) [42, 44] [t20, t22] h21 fun t23 h24 =>
K.subK (K.binV ctx .sub 3 false t19 t23) t19 t23 fun t25 =>
K.slcK ctx 27 t17 none (some t25) none h24 fun t26 =>
K.unmarkK m12 h24 fun h27 => .ok t26 h27)) fun j14 =>
K.loopV (nat_lit 1000000) (fun s31 l28 m29 h30 => K.uncons l28 fun t32 l33 => K.uncons l33 fun t34 l35 => K.uncons l35 fun t36 l37 => K.uncons l37 fun t38 l39 => K.unnil l39 (
K.lenVK t32 fun t40 =>
K.ltK (K.binV ctx .lss 3 false t38 t40) t38 t40 fun t41 =>
K.letK (fun (t42 : AV) (h43 : H) => K.letK (fun (t45 : AV) (h46 : H) => K.letK (fun (t48 : AV) (h49 : H) => K.pickK t41 t48 (.bool false) fun t51 =>
K.iteV t51 (
K.idxSK 2 t32 t38 fun t52 =>
K.fldK 0 t52 fun t53 =>
K.ldK ctx 29 t53 h49 fun t54 =>
K.rK (convA ctx 29 3 t54 h49) fun t55 h56 =>
K.lenVK t36 fun t57 =>
K.oK (K.binV ctx .rem 3 false t55 t57) fun t58 =>
K.idxSK 2 t32 t38 fun t59 =>
K.fldK 1 t59 fun t60 =>
K.ldK ctx 37 t60 h56 fun t61 =>
K.idxSK 1 t36 t58 fun t62 =>
K.stK t62 t61 h56 fun h63 =>
K.addK (K.binV ctx .add 3 true t38 (.int .i64 (.ofNat 1))) t38 (.int .i64 (.ofNat 1)) fun t64 =>
s31 [t32, t34, t36, t64] m29 h63) (
j14 [t34, t36] m29 h49)) fun j50 =>
K.guK true t41 (K.gtK (K.binV ctx .gtr 3 true t45 (.int .i64 (.ofNat 0))) t45 (.int .i64 (.ofNat 0)) fun t65 =>
j50 t65 h46) (j50 (.tup []) h46)) fun j47 =>
K.guK true t41 (K.lenVK t42 fun t66 =>
j47 t66 h43) (j47 (.tup []) h43)) fun j44 =>
K.guK true t41 (j44 t36 h30) (j44 (.tup []) h30))) [t2, t4, t9, (.int .i64 (.ofNat 0))] [] h10)
noncomputable def r8 : K.KRun → List AV → H → K.KR := fun run args h => K.uncons args fun t0 l1 => K.uncons l1 fun t2 l3 => K.unnil l3 (
K.boxK t0 h fun t4 h5 =>
K.boxK t2 h5 fun t6 h7 =>
K.allocK (K.zN ctx 32) (K.zT ctx 32) h7 fun t8 h9 =>
K.ldK ctx 30 t4 h9 fun t10 =>
K.eqK (K.binV ctx .eql 30 true t10 .nilPtr) t10 .nilPtr fun t11 =>
K.iteV t11 (
K.stK t8 (.int .i64 (.ofNat 2)) h9 fun h12 =>
K.unmarkK [] h12 fun h13 => K.asPtr t8 fun n14 n15 => K.load1 h13 n14 n15 fun t16 => .ok t16 h13) (
K.ldsK ctx 25 3 t6 h9 fun t17 =>
K.callFK run 29 [t17] h9 fun t18 h19 =>
K.notK t18 fun t20 =>
K.iteV t20 (
K.stK t8 (.int .i64 (.ofNat 1)) h19 fun h21 =>
K.unmarkK [] h21 fun h22 => K.asPtr t8 fun n23 n24 => K.load1 h22 n23 n24 fun t25 => .ok t25 h22) (
K.ldK ctx 30 t4 h19 fun t26 =>
K.ldsK ctx 25 3 t6 h19 fun t27 =>
K.callFK run 30 [t26] h19 fun t28 h29 =>
K.ldsK ctx 25 3 t6 h29 fun t30 =>
K.req (AV.same t27 t30) (
K.callFK run 16 [t27] h29 fun t31 h32 =>
K.ltK (K.binV ctx .lss 3 false t28 t31) t28 t31 fun t33 =>
K.iteV t33 (
K.stK t8 (.int .i64 (.ofNat 8)) h32 fun h34 =>
K.unmarkK [] h34 fun h35 => K.asPtr t8 fun n36 n37 => K.load1 h35 n36 n37 fun t38 => .ok t38 h35) (
K.ldsK ctx 25 3 t6 h32 fun t39 =>
K.callFK run 9 [t39] h32 fun t40 h41 =>
K.letK (fun (l42 : List AV) (m43 : List Nat) (h44 : H) => K.uncons l42 fun t46 l47 => K.uncons l47 fun t48 l49 => K.uncons l49 fun t50 l51 => K.unnil l51 (
K.lenVK t50 fun t52 =>
K.addK (K.binV ctx .add 3 true t52 (.int .i64 (.ofNat 8))) t52 (.int .i64 (.ofNat 8)) fun t53 =>
K.subK (K.binV ctx .sub 3 true t53 (.int .i64 (.ofNat 1))) t53 (.int .i64 (.ofNat 1)) fun t54 =>
K.oK (K.binV ctx .quo 3 true t54 (.int .i64 (.ofNat 8))) fun t55 =>
K.ldK ctx 30 t46 h44 fun t56 =>
K.callFK run 32 [t55, (.func (.func 33) [t56] [])] h44 fun t57 h58 =>
K.neK (K.binV ctx .neq 32 true t57 (.int .i64 (.ofNat 0))) t57 (.int .i64 (.ofNat 0)) fun t59 =>
K.iteV t59 (
K.stK t48 t57 h58 fun h60 =>
K.unmarkK m43 h60 fun h61 => K.asPtr t48 fun n62 n63 => K.load1 h61 n62 n63 fun t64 => .ok t64 h61) (
K.ldK ctx 30 t46 h58 fun t65 =>
K.callFK run 34 [t65] h58 fun t66 h67 =>
K.stK t48 t66 h67 fun h68 =>
K.unmarkK m43 h68 fun h69 => K.asPtr t48 fun n70 n71 => K.load1 h69 n70 n71 fun t72 => .ok t72 h69))) fun j45 =>
K.callFK run 31 [t40] h41 fun t73 h74 =>
K.hNew h74 .marks fun r75 h76 => K.hNew h76 (.loop .ready none (K.mkT [2, 4, 5, 26] [t4, t8, t40, t73]) 1 r75) fun n77 h78 =>
K.rngK ctx run t73 n77 h78 (fun h80 => j45 [t4, t8, t40] (r75 :: []) h80) (fun h81 => K.unmarkK (r75 :: []) h81 fun h84 => K.asPtr t8 fun n85 n86 => K.load1 h84 n85 n86 fun t87 => .ok t87 h84) fun i79 h82 => (Bool.rec (motive := fun _ => K.KR) (.bad) (j45 [t4, t8, t40] (r75 :: []) h82) (Nat.beq i79 1)))))))
noncomputable def r9 : K.KRun → List AV → H → K.KR := fun run args h => K.uncons args fun t0 l1 => K.unnil l1 (
K.boxK t0 h fun t2 h3 =>
K.ldsK ctx 25 3 t2 h3 fun t4 =>
K.callFK run 29 [t4] h3 fun t5 h6 =>
K.notK t5 fun t7 =>
K.iteV t7 (
K.unmarkK [] h6 fun h8 => .ok .nilSlice h8) (
K.ldsK ctx 25 3 t2 h6 fun t9 =>
K.callFK run 16 [t9] h6 fun t10 h11 =>
K.mslK ctx 37 1 t10 t10 h11 fun t12 h13 =>
K.fldK 0 t2 fun t14 =>
K.ldK ctx 3 t14 h13 fun t15 =>
K.rK (convA ctx 3 37 t15 h13) fun t16 h17 =>
K.fldK 1 t2 fun t18 =>
K.ldK ctx 3 t18 h17 fun t19 =>
K.rK (convA ctx 3 37 t19 h17) fun t20 h21 =>
K.fldK 2 t2 fun t22 =>
K.ldK ctx 3 t22 h21 fun t23 =>
K.rK (convA ctx 3 37 t23 h21) fun t24 h25 =>
K.bslK ctx 37 1 4 [(0, (.int .u64 (.ofNat 32762617960297063))), (1, t16), (2, t20), (3, t24)] h25 fun t26 h27 =>
K.slowK ctx run (K.opAt Go.Proofs.Tryz.f9 4 11) [10, 20] [t12, t26] h27 fun t28 h29 =>
K.ldsK ctx 25 3 t2 h29 fun t30 =>
K.callFK run 35 [t30] h29 fun t31 h32 =>
K.idxSK 1 t12 t31 fun t33 =>
K.stK t33 (.int .u64 (.ofNat 3)) h32 fun h34 =>
K.ldsK ctx 25 3 t2 h34 fun t35 =>
K.callFK run 36 [t35] h34 fun t36 h37 =>
K.idxSK 1 t12 t36 fun t38 =>
K.stK t38 (.int .u64 (.ofNat 1)) h37 fun h39 =>
K.ldsK ctx 25 3 t2 h39 fun t40 =>
K.callFK run 37 [t40, (.int .i64 (.ofNat 1))] h39 fun t41 h42 =>
K.slcK ctx 27 t12 (some t41) none none h42 fun t43 =>
K.bslK ctx 37 1 2 [(0, (.int .u64 (.ofNat 2))), (1, (.int .u64 (.ofNat 1)))] h42 fun t44 h45 =>
K.slowK ctx run (K.opAt Go.Proofs.Tryz.f9 7 5) [33, 34] [t43, t44] h45 fun t46 h47 =>
K.unmarkK [] h47 fun h48 => .ok t12 h48))
noncomputable def r10 : K.KRun → List AV → H → K.KR := fun run args h => K.uncons args fun t0 l1 => K.unnil l1 (
K.callFK run 38 [t0, (.func (.func 39) [] [])] h fun t2 h3 =>
K.unmarkK [] h3 fun h4 => .ok t2 h4)
noncomputable def r11 : K.KRun → List AV → H → K.KR := fun run args h => K.uncons args fun t0 l1 => K.unnil l1 (
K.allocK (K.zN ctx 3) (K.zT ctx 3) h fun t2 h3 =>
K.letK (fun (l4 : List AV) (m5 : List Nat) (h6 : H) => K.uncons l4 fun t8 l9 => K.unnil l9 (
K.ldK ctx 3 t8 h6 fun t10 =>
K.stK t8 t10 h6 fun h11 =>
K.unmarkK m5 h11 fun h12 => K.asPtr t8 fun n13 n14 => K.load1 h12 n13 n14 fun t15 => .ok t15 h12)) fun j7 =>
K.neK (K.binV ctx .neq 30 true t0 .nilPtr) t0 .nilPtr fun t16 =>
K.iteV t16 (
K.nilK t0 fun t17 =>
K.fldK 0 t17 fun t18 =>
K.ldK ctx 83 t18 h3 fun t19 =>
K.callFK run 40 [t19] h3 fun t20 h21 =>
K.hNew h21 .marks fun r22 h23 => K.hNew h23 (.loop .ready none (K.mkT [2, 9] [t2, t20]) 2 r22) fun n24 h25 =>
K.rngK ctx run t20 n24 h25 (fun h27 => j7 [t2] (r22 :: []) h27) (fun h28 => K.unmarkK (r22 :: []) h28 fun h31 => K.asPtr t2 fun n32 n33 => K.load1 h31 n32 n33 fun t34 => .ok t34 h31) fun i26 h29 => (Bool.rec (motive := fun _ => K.KR) (.bad) (j7 [t2] (r22 :: []) h29) (Nat.beq i26 0))) (
j7 [t2] [] h3))
noncomputable def r12 : K.KRun → List AV → H → K.KR := fun run args h => K.uncons args fun t0 l1 => K.unnil l1 (
K.eqK (K.binV ctx .eql 30 true t0 .nilPtr) t0 .nilPtr fun t2 =>
K.iteV t2 (
K.unmarkK [] h fun h3 => .ok (.tup [.nilPtr, (.int .i64 (.ofNat 2))]) h3) (
K.callFK run 42 [t0] h fun t4 h5 =>
K.callFK run 41 [t4] h5 fun t6 h7 =>
K.extK t6 0 fun t8 =>
K.extK t6 1 fun t9 =>
K.allocK (K.zN ctx 25) (K.zT ctx 25) h7 fun t10 h11 =>
K.stsK 3 t10 t8 h11 fun h12 =>
K.notK t9 fun t13 =>
K.iteV t13 (
K.unmarkK [] h12 fun h14 => .ok (.tup [.nilPtr, (.int .i64 (.ofNat 4))]) h14) (
K.ldsK ctx 25 3 t10 h12 fun t15 =>
K.bldSK ctx 89 [(0, t0), (1, t15)] fun t16 =>
K.boxK t16 h12 fun t17 h18 =>
K.callFK run 43 [t17, (.int .i64 (.ofNat 0))] h18 fun t19 h20 =>
K.unmarkK [] h20 fun h21 => .ok (.tup [t17, (.int .i64 (.ofNat 0))]) h21)))
noncomputable def r13 : K.KRun → List AV → H → K.KR := fun run args h => K.uncons args fun t0 l1 => K.unnil l1 (
K.eqK (K.binV ctx .eql 38 true t0 .nilPtr) t0 .nilPtr fun t2 =>
K.letK (fun (t3 : AV) (h4 : H) => K.letK (fun (t6 : AV) (h7 : H) => K.letK (fun (t9 : AV) (h10 : H) => K.letK (fun (t12 : AV) (h13 : H) => K.letK (fun (t15 : AV) (h16 : H) => K.pickK t2 (.bool true) t15 fun t18 =>
K.iteV t18 (
K.unmarkK [] h16 fun h19 => .ok (.int .i64 (.ofNat 0)) h19) (
K.nilK t0 fun t20 =>
K.fldK 5 t20 fun t21 =>
K.ldK ctx 46 t21 h16 fun t22 =>
K.callFK run 44 [t22] h16 fun t23 h24 =>
K.unmarkK [] h24 fun h25 => .ok t23 h25)) fun j17 =>
K.guK false t2 (K.eqK (K.binV ctx .eql 46 true t12 .nilPtr) t12 .nilPtr fun t26 =>
j17 t26 h13) (j17 (.tup []) h13)) fun j14 =>
K.guK false t2 (K.ldK ctx 46 t9 h10 fun t27 =>
j14 t27 h10) (j14 (.tup []) h10)) fun j11 =>
K.guK false t2 (K.fldK 5 t6 fun t28 =>
j11 t28 h7) (j11 (.tup []) h7)) fun j8 =>
K.guK false t2 (K.nilK t3 fun t29 =>
j8 t29 h4) (j8 (.tup []) h4)) fun j5 =>
K.guK false t2 (j5 t0 h) (j5 (.tup []) h))
noncomputable def r14 : K.KRun → List AV → H → K.KR := fun run args h => K.uncons args fun t0 l1 => K.unnil l1 (
K.allocK (K.zN ctx 25) (K.zT ctx 25) h fun t2 h3 =>
K.eqK (K.binV ctx .eql 38 true t0 .nilPtr) t0 .nilPtr fun t4 =>
K.iteV t4 (
K.bldSK ctx 25 [] fun t5 =>
K.stsK 3 t2 t5 h3 fun h6 =>
K.unmarkK [] h6 fun h7 => K.asPtr t2 fun n8 n9 => K.loads h7 n8 n9 3 fun t10 => .ok (.agg t10) h7) (
K.nilK t0 fun t11 =>
K.fldK 1 t11 fun t12 =>
K.ldsK ctx 25 3 t12 h3 fun t13 =>
K.stsK 3 t2 t13 h3 fun h14 =>
K.unmarkK [] h14 fun h15 => K.asPtr t2 fun n16 n17 => K.loads h15 n16 n17 3 fun t18 => .ok (.agg t18) h15))
noncomputable def r15 : K.KRun → List AV → H → K.KR := fun run args h => K.uncons args fun t0 l1 => K.unnil l1 (
K.ltK (K.binV ctx .lss 3 true t0 (.int .i64 (.ofNat 8))) t0 (.int .i64 (.ofNat 8)) fun t2 =>
K.letK (fun (t3 : AV) (h4 : H) => K.letK (fun (t6 : AV) (h7 : H) => K.pickK t2 (.bool true) t6 fun t9 =>
K.letK (fun (t10 : AV) (h11 : H) => K.letK (fun (t13 : AV) (h14 : H) => K.letK (fun (t16 : AV) (h17 : H) => K.pickK t9 (.bool true) t16 fun t19 =>
K.iteV t19 (
K.unmarkK [] h17 fun h20 => .ok (.tup [.nilPtr, (.int .i64 (.ofNat 1))]) h20) (
K.mslK ctx 78 6 t0 t0 h17 fun t21 h22 =>
K.bldSK ctx 85 [(0, t21)] fun t23 =>
K.boxK t23 h22 fun t24 h25 =>
K.unmarkK [] h25 fun h26 => .ok (.tup [t24, (.int .i64 (.ofNat 0))]) h26)) fun j18 =>
K.guK false t9 (K.neK (K.binV ctx .neq 3 true t13 (.int .i64 (.ofNat 0))) t13 (.int .i64 (.ofNat 0)) fun t27 =>
j18 t27 h14) (j18 (.tup []) h14)) fun j15 =>
K.guK false t9 (K.oK (K.binV ctx .rem 3 true t10 (.int .i64 (.ofNat 8))) fun t28 =>
j15 t28 h11) (j15 (.tup []) h11)) fun j12 =>
K.guK false t9 (j12 t0 h7) (j12 (.tup []) h7)) fun j8 =>
K.guK false t2 (K.gtK (K.binV ctx .gtr 3 true t3 (.int .i64 (.ofNat 65536))) t3 (.int .i64 (.ofNat 65536)) fun t29 =>
j8 t29 h4) (j8 (.tup []) h4)) fun j5 =>
K.guK false t2 (j5 t0 h) (j5 (.tup []) h))
noncomputable def r16 : K.KRun → List AV → H → K.KR := fun run args h => K.uncons args fun t0 l1 => K.unnil l1 (
K.boxK t0 h fun t2 h3 =>
K.ldsK ctx 25 3 t2 h3 fun t4 =>
K.callFK run 29 [t4] h3 fun t5 h6 =>
K.notK t5 fun t7 =>
K.iteV t7 (
K.unmarkK [] h6 fun h8 => .ok (.int .i64 (.ofNat 0)) h8) (
K.letK (fun (l9 : List AV) (m10 : List Nat) (h11 : H) => K.uncons l9 fun t13 l14 => K.unnil l14 (
K.unmarkK m10 h11 fun h15 => .ok t13 h15)) fun j12 =>
K.ldsK ctx 25 3 t2 h6 fun t16 =>
K.callFK run 45 [t16] h6 fun t17 h18 =>
K.loopV (nat_lit 1000000) (fun s22 l19 m20 h21 => K.uncons l19 fun t23 l24 => K.uncons l24 fun t25 l26 => K.uncons l26 fun t27 l28 => K.unnil l28 (
K.ltK (K.binV ctx .lss 3 true t27 (.int .i64 (.ofNat 7))) t27 (.int .i64 (.ofNat 7)) fun t29 =>
K.iteV t29 (
K.idxK ctx 93 3 7 t25 t27 fun t30 =>
K.allocK (K.zN ctx 93) (K.zT ctx 93) h21 fun t31 h32 =>
K.stsK 3 t31 t30 h32 fun h33 =>
K.fldK 1 t31 fun t34 =>
K.ldK ctx 3 t34 h33 fun t35 =>
K.fldK 2 t31 fun t36 =>
K.ldK ctx 3 t36 h33 fun t37 =>
K.mulK (K.binV ctx .mul 3 false t35 t37) t35 t37 fun t38 =>
K.addK (K.binV ctx .add 3 false t23 t38) t23 t38 fun t39 =>
K.addK (K.binV ctx .add 3 true t27 (.int .i64 (.ofNat 1))) t27 (.int .i64 (.ofNat 1)) fun t40 =>
s22 [t39, t25, t40] m20 h33) (
j12 [t23] m20 h21))) [(.int .i64 (.ofNat 0)), t17, (.int .i64 (.ofNat 0))] [] h18))
noncomputable def r17 : K.KRun → List AV → H → K.KR := fun run args h => K.uncons args fun t0 l1 => K.uncons l1 fun t2 l3 => K.uncons l3 fun t4 l5 => K.unnil l5 (
K.boxK t2 h fun t6 h7 =>
K.ldsK ctx 25 3 t6 h7 fun t8 =>
K.callFK run 46 [t8, t4] h7 fun t9 h10 =>
K.eqK (K.binV ctx .eql 30 true t0 .nilPtr) t0 .nilPtr fun t11 =>
K.iteV t11 (
K.unmarkK [] h10 fun h12 => .ok (.tup [.nilPtr, (.int .i64 (.ofNat 2))]) h12) (
K.ltK (K.binV ctx .lss 3 true t9 (.int .i64 (.ofNat 0))) t9 (.int .i64 (.ofNat 0)) fun t13 =>
K.iteV t13 (
K.unmarkK [] h10 fun h14 => .ok (.tup [.nilPtr, (.int .i64 (.ofNat 1))]) h14) (
K.ldsK ctx 25 3 t6 h10 fun t15 =>
K.callFK run 30 [t0] h10 fun t16 h17 =>
K.ldsK ctx 25 3 t6 h17 fun t18 =>
K.req (AV.same t15 t18) (
K.callFK run 16 [t15] h17 fun t19 h20 =>
K.ltK (K.binV ctx .lss 3 false t16 t19) t16 t19 fun t21 =>
K.iteV t21 (
K.unmarkK [] h20 fun h22 => .ok (.tup [.nilPtr, (.int .i64 (.ofNat 8))]) h22) (
K.ldsK ctx 25 3 t6 h20 fun t23 =>
K.bldSK ctx 98 [(0, t0), (1, t23), (2, t9)] fun t24 =>
K.boxK t24 h20 fun t25 h26 =>
K.unmarkK [] h26 fun h27 => .ok (.tup [t25, (.int .i64 (.ofNat 0))]) h27)))))
noncomputable def r18 : K.KRun → List AV → H → K.KR := fun run args h => K.uncons args fun t0 l1 => K.unnil l1 (
K.eqK (K.binV ctx .eql 38 true t0 .nilPtr) t0 .nilPtr fun t2 =>
K.iteV t2 (
K.unmarkK [] h fun h3 => .ok (.int .i64 (.ofNat 0)) h3) (
K.nilK t0 fun t4 =>
K.fldK 4 t4 fun t5 =>
K.ldK ctx 3 t5 h fun t6 =>
K.unmarkK [] h fun h7 => .ok t6 h7))
noncomputable def r19 : K.KRun → List AV → H → K.KR := fun run args h => K.uncons args fun t0 l1 => K.uncons l1 fun t2 l3 => K.unnil l3 (
K.eqK (K.binV ctx .eql 46 true t0 .nilPtr) t0 .nilPtr fun t4 =>
K.iteV t4 (
K.unmarkK [] h fun h5 => .ok (.int .i64 (.ofNat 2)) h5) (
K.nilK t0 fun t6 =>
K.fldK 5 t6 fun t7 =>
K.ldK ctx 96 t7 h fun t8 =>
K.lenVK t8 fun t9 =>
K.gtK (K.binV ctx .gtr 3 true t9 (.int .i64 (.ofNat 0))) t9 (.int .i64 (.ofNat 0)) fun t10 =>
K.iteV t10 (
K.unmarkK [] h fun h11 => .ok (.int .i64 (.ofNat 3)) h11) (
K.nilK t0 fun t12 =>
K.fldK 1 t12 fun t13 =>
K.ldsK ctx 25 3 t13 h fun t14 =>
K.callFK run 47 [t14, t2] h fun t15 h16 =>
K.notK t15 fun t17 =>
K.iteV t17 (
K.unmarkK [] h16 fun h18 => .ok (.int .i64 (.ofNat 1)) h18) (
K.callFK run 48 [t2] h16 fun t19 h20 =>
K.extK t19 0 fun t21 =>
K.extK t19 1 fun t22 =>
K.neK (K.binV ctx .neq 32 true t22 (.int .i64 (.ofNat 0))) t22 (.int .i64 (.ofNat 0)) fun t23 =>
K.iteV t23 (
K.unmarkK [] h20 fun h24 => .ok t22 h24) (
K.letK (fun (l25 : List AV) (m26 : List Nat) (h27 : H) => K.uncons l25 fun t29 l30 => K.uncons l30 fun t31 l32 => K.uncons l32 fun t33 l34 => K.uncons l34 fun t35 l36 => K.unnil l36 (
K.callFK run 49 [t29, (.int .u8 (.ofNat 1)), (.int .u8 (.ofNat 2)), t35] h27 fun t37 h38 =>
K.callFK run 51 [t33] h38 fun t39 h40 =>
K.callFK run 50 [t29, (.int .u8 (.ofNat 3)), t39] h40 fun t41 h42 =>
K.callFK run 53 [t31] h42 fun t43 h44 =>
K.callFK run 52 [t29, t43] h44 fun t45 h46 =>
K.unmarkK m26 h46 fun h47 => .ok (.int .i64 (.ofNat 0)) h47)) fun j28 =>
K.lenVK t21 fun t48 =>
K.loopV (nat_lit 1000000) (fun s52 l49 m50 h51 => K.uncons l49 fun t53 l54 => K.uncons l54 fun t55 l56 => K.uncons l56 fun t57 l58 => K.uncons l58 fun t59 l60 => K.uncons l60 fun t61 l62 => K.uncons l62 fun t63 l64 => K.uncons l64 fun t65 l66 => K.unnil l66 (
K.ltK (K.binV ctx .lss 3 false t65 t63) t65 t63 fun t67 =>
K.iteV t67 (
K.idxSK 1 t61 t65 fun t68 =>
K.ldK ctx 37 t68 h51 fun t69 =>
K.nilK t53 fun t70 =>
K.fldK 4 t70 fun t71 =>
K.ldK ctx 3 t71 h51 fun t72 =>
K.addK (K.binV ctx .add 3 true t72 (.int .i64 (.ofNat 8))) t72 (.int .i64 (.ofNat 8)) fun t73 =>
K.addK (K.binV ctx .add 3 false t73 t65) t73 t65 fun t74 =>
K.bldSK ctx 52 [(0, t74), (1, t69)] fun t75 =>
K.bslK ctx 52 2 1 [(0, t75)] h51 fun t76 h77 =>
K.appK ctx 52 2 t59 t76 h77 fun t78 h79 =>
K.addK (K.binV ctx .add 3 true t65 (.int .i64 (.ofNat 1))) t65 (.int .i64 (.ofNat 1)) fun t80 =>
s52 [t53, t55, t57, t78, t61, t63, t80] m50 h79) (
j28 [t53, t55, t57, t59] m50 h51))) [t0, t2, t21, .nilSlice, t21, t48, (.int .i64 (.ofNat 0))] [] h20)))))
noncomputable def r20 : K.KRun → List AV → H → K.KR := fun run args h => K.uncons args fun t0 l1 => K.uncons l1 fun t2 l3 => K.unnil l3 (
K.boxK t0 h fun t4 h5 =>
K.ldsK ctx 25 3 t4 h5 fun t6 =>
K.callFK run 54 [t6, (.int .u8 (.ofNat 9)), t2] h5 fun t7 h8 =>
K.unmarkK [] h8 fun h9 => .ok t7 h9)
noncomputable def r21 : K.KRun → List AV → H → K.KR := fun run args h => K.uncons args fun t0 l1 => K.unnil l1 (
K.callFK run 44 [t0] h fun t2 h3 =>
K.eqK (K.binV ctx .eql 3 true t2 (.int .i64 (.ofNat 0))) t2 (.int .i64 (.ofNat 0)) fun t4 =>
K.iteV t4 (
K.unmarkK [] h3 fun h5 => .ok (.int .u8 (.ofNat 0)) h5) (
K.nilK t0 fun t6 =>
K.fldK 5 t6 fun t7 =>
K.ldK ctx 96 t7 h3 fun t8 =>
K.idxSK 2 t8 (.int .i64 (.ofNat 0)) fun t9 =>
K.fldK 0 t9 fun t10 =>
K.ldK ctx 54 t10 h3 fun t11 =>
K.unmarkK [] h3 fun h12 => .ok t11 h12))
noncomputable def r22 : K.KRun → List AV → H → K.KR := fun run args h => K.uncons args fun t0 l1 => K.unnil l1 (
K.eqK (K.binV ctx .eql 46 true t0 .nilPtr) t0 .nilPtr fun t2 =>
K.iteV t2 (
K.unmarkK [] h fun h3 => .ok (.tup [(.int .u8 (.ofNat 0)), (.int .i64 (.ofNat 2))]) h3) (
K.nilK t0 fun t4 =>
K.fldK 5 t4 fun t5 =>
K.ldK ctx 96 t5 h fun t6 =>
K.lenVK t6 fun t7 =>
K.eqK (K.binV ctx .eql 3 true t7 (.int .i64 (.ofNat 0))) t7 (.int .i64 (.ofNat 0)) fun t8 =>
K.iteV t8 (
K.unmarkK [] h fun h9 => .ok (.tup [(.int .u8 (.ofNat 0)), (.int .i64 (.ofNat 3))]) h9) (
K.nilK t0 fun t10 =>
K.fldK 5 t10 fun t11 =>
K.ldK ctx 96 t11 h fun t12 =>
K.idxSK 2 t12 (.int .i64 (.ofNat 0)) fun t13 =>
K.ldsK ctx 109 2 t13 h fun t14 =>
K.allocK (K.zN ctx 109) (K.zT ctx 109) h fun t15 h16 =>
K.stsK 2 t15 t14 h16 fun h17 =>
K.nilK t0 fun t18 =>
K.fldK 5 t18 fun t19 =>
K.ldK ctx 96 t19 h17 fun t20 =>
K.slcK ctx 96 t20 (some (.int .i64 (.ofNat 1))) none none h17 fun t21 =>
K.nilK t0 fun t22 =>
K.fldK 5 t22 fun t23 =>
K.stK t23 t21 h17 fun h24 =>
K.fldK 0 t15 fun t25 =>
K.ldK ctx 54 t25 h24 fun t26 =>
K.fldK 1 t15 fun t27 =>
K.ldK ctx 73 t27 h24 fun t28 =>
K.callVK run t28 [] h24 fun t29 h30 =>
K.ldK ctx 54 t25 h30 fun t31 =>
K.req (AV.same t26 t31) (
K.unmarkK [] h30 fun h32 => .ok (.tup [t26, t29]) h32))))
noncomputable def r23 : K.KRun → List AV → H → K.KR := fun run args h => K.uncons args fun t0 l1 => K.unnil l1 (
K.eqK (K.binV ctx .eql 38 true t0 .nilPtr) t0 .nilPtr fun t2 =>
K.iteV t2 (
K.unmarkK [] h fun h3 => .ok (.tup [(.int .u8 (.ofNat 0)), (.int .i64 (.ofNat 2))]) h3) (
K.nilK t0 fun t4 =>
K.fldK 5 t4 fun t5 =>
K.ldK ctx 46 t5 h fun t6 =>
K.eqK (K.binV ctx .eql 46 true t6 .nilPtr) t6 .nilPtr fun t7 =>
K.iteV t7 (
K.unmarkK [] h fun h8 => .ok (.tup [(.int .u8 (.ofNat 0)), (.int .i64 (.ofNat 3))]) h8) (
K.nilK t0 fun t9 =>
K.fldK 5 t9 fun t10 =>
K.ldK ctx 46 t10 h fun t11 =>
K.callFK run 22 [t11] h fun t12 h13 =>
K.extK t12 0 fun t14 =>
K.extK t12 1 fun t15 =>
K.letK (fun (l16 : List AV) (m17 : List Nat) (h18 : H) => K.uncons l16 fun t20 l21 => K.uncons l21 fun t22 l23 => K.unnil l23 (
K.unmarkK m17 h18 fun h24 => .ok (.tup [t20, t22]) h24)) fun j19 =>
K.nilK t0 fun t25 =>
K.fldK 5 t25 fun t26 =>
K.ldK ctx 46 t26 h13 fun t27 =>
K.callFK run 44 [t27] h13 fun t28 h29 =>
K.eqK (K.binV ctx .eql 3 true t28 (.int .i64 (.ofNat 0))) t28 (.int .i64 (.ofNat 0)) fun t30 =>
K.iteV t30 (
K.nilK t0 fun t31 =>
K.fldK 4 t31 fun t32 =>
K.ldK ctx 3 t32 h29 fun t33 =>
K.addK (K.binV ctx .add 3 true t33 (.int .i64 (.ofNat 1))) t33 (.int .i64 (.ofNat 1)) fun t34 =>
K.callFK run 43 [t0, t34] h29 fun t35 h36 =>
j19 [t14, t15] [] h36) (
j19 [t14, t15] [] h29))))
noncomputable def r24 : K.KRun → List AV → H → K.KR := fun run args h => K.uncons args fun t0 l1 => K.uncons l1 fun t2 l3 => K.unnil l3 (
K.callFK run 55 [t0, t2] h fun t4 h5 =>
K.extK t4 0 fun t6 =>
K.extK t4 1 fun t7 =>
K.neK (K.binV ctx .neq 32 true t7 (.int .i64 (.ofNat 0))) t7 (.int .i64 (.ofNat 0)) fun t8 =>
K.iteV t8 (
K.unmarkK [] h5 fun h9 => .ok (.tup [(.int .u64 (.ofNat 0)), t7]) h9) (
K.nilK t6 fun t10 =>
K.fldK 1 t10 fun t11 =>
K.ldK ctx 37 t11 h5 fun t12 =>
K.unmarkK [] h5 fun h13 => .ok (.tup [t12, (.int .i64 (.ofNat 0))]) h13))
noncomputable def r25 : K.KRun → List AV → H → K.KR := fun run args h => K.uncons args fun t0 l1 => K.unnil l1 (
K.allocK (K.zN ctx 25) (K.zT ctx 25) h fun t2 h3 =>
K.oK (K.binV ctx .rem 5 true t0 (.int .u8 (.ofNat 39))) fun t4 =>
K.addK (K.binV ctx .add 5 true (.int .u8 (.ofNat 20)) t4) (.int .u8 (.ofNat 20)) t4 fun t5 =>
K.callFK run 56 [(.int .u8 (.ofNat 9)), t5] h3 fun t6 h7 =>
K.stsK 3 t2 t6 h7 fun h8 =>
K.unmarkK [] h8 fun h9 => K.asPtr t2 fun n10 n11 => K.loads h9 n10 n11 3 fun t12 => .ok (.agg t12) h9)
noncomputable def r26 : K.KRun → List AV → H → K.KR := fun run args h => K.uncons args fun t0 l1 => K.unnil l1 (
K.boxK t0 h fun t2 h3 =>
K.ldsK ctx 63 3 t2 h3 fun t4 =>
K.callFK run 57 [t4] h3 fun t5 h6 =>
K.notK t5 fun t7 =>
K.iteV t7 (
K.unmarkK [] h6 fun h8 => .ok .nilSlice h8) (
K.ldsK ctx 63 3 t2 h6 fun t9 =>
K.callFK run 58 [t9] h6 fun t10 h11 =>
K.mslK ctx 37 1 t10 t10 h11 fun t12 h13 =>
K.idxSK 1 t12 (.int .i64 (.ofNat 0)) fun t14 =>
K.stK t14 (.int .u64 (.ofNat 32762617960297063)) h13 fun h15 =>
K.fldK 0 t2 fun t16 =>
K.ldK ctx 3 t16 h15 fun t17 =>
K.rK (convA ctx 3 37 t17 h15) fun t18 h19 =>
K.idxSK 1 t12 (.int .i64 (.ofNat 1)) fun t20 =>
K.stK t20 t18 h19 fun h21 =>
K.fldK 1 t2 fun t22 =>
K.ldK ctx 3 t22 h21 fun t23 =>
K.rK (convA ctx 3 37 t23 h21) fun t24 h25 =>
K.idxSK 1 t12 (.int .i64 (.ofNat 2)) fun t26 =>
K.stK t26 t24 h25 fun h27 =>
K.fldK 2 t2 fun t28 =>
K.ldK ctx 3 t28 h27 fun t29 =>
K.rK (convA ctx 3 37 t29 h27) fun t30 h31 =>
K.idxSK 1 t12 (.int .i64 (.ofNat 3)) fun t32 =>
K.stK t32 t30 h31 fun h33 =>
K.ldsK ctx 63 3 t2 h33 fun t34 =>
K.callFK run 59 [t34] h33 fun t35 h36 =>
K.idxSK 1 t12 t35 fun t37 =>
K.stK t37 (.int .u64 (.ofNat 3)) h36 fun h38 =>
K.ldsK ctx 63 3 t2 h38 fun t39 =>
K.callFK run 60 [t39] h38 fun t40 h41 =>
K.idxSK 1 t12 t40 fun t42 =>
K.stK t42 (.int .u64 (.ofNat 1)) h41 fun h43 =>
K.ldsK ctx 63 3 t2 h43 fun t44 =>
K.callFK run 61 [t44, (.int .i64 (.ofNat 1))] h43 fun t45 h46 =>
K.idxSK 1 t12 t45 fun t47 =>
K.stK t47 (.int .u64 (.ofNat 2)) h46 fun h48 =>
K.ldsK ctx 63 3 t2 h48 fun t49 =>
K.callFK run 61 [t49, (.int .i64 (.ofNat 1))] h48 fun t50 h51 =>
K.addK (K.binV ctx .add 3 true t50 (.int .i64 (.ofNat 1))) t50 (.int .i64 (.ofNat 1)) fun t52 =>
K.idxSK 1 t12 t52 fun t53 =>
K.stK t53 (.int .u64 (.ofNat 1)) h51 fun h54 =>
K.unmarkK [] h54 fun h55 => .ok t12 h55))
noncomputable def r27 : K.KRun → List AV → H → K.KR := fun run args h => K.uncons args fun t0 l1 => K.uncons l1 fun t2 l3 => K.uncons l3 fun t4 l5 => K.unnil l5 (
K.callFK run 55 [t0, t2] h fun t6 h7 =>
K.extK t6 0 fun t8 =>
K.extK t6 1 fun t9 =>
K.letK (fun (l10 : List AV) (m11 : List Nat) (h12 : H) => K.uncons l10 fun t14 l15 => K.unnil l15 (
K.unmarkK m11 h12 fun h16 => .ok t14 h16)) fun j13 =>
K.eqK (K.binV ctx .eql 32 true t9 (.int .i64 (.ofNat 0))) t9 (.int .i64 (.ofNat 0)) fun t17 =>
K.iteV t17 (
K.nilK t8 fun t18 =>
K.fldK 1 t18 fun t19 =>
K.stK t19 t4 h7 fun h20 =>
K.nilK t8 fun t21 =>
K.fldK 2 t21 fun t22 =>
K.fldK 0 t22 fun t23 =>
K.stK t23 (.bool true) h20 fun h24 =>
K.nilK t8 fun t25 =>
K.fldK 2 t25 fun t26 =>
K.fldK 2 t26 fun t27 =>
K.stK t27 (.bool true) h24 fun h28 =>
j13 [t9] [] h28) (
j13 [t9] [] h7))
noncomputable def r28 : K.KRun → List AV → H → K.KR := fun run args h => K.uncons args fun t0 l1 => K.uncons l1 fun t2 l3 => K.unnil l3 (
K.callFK run 62 [t0, t2, (.func (.func 63) [] [])] h fun t4 h5 =>
K.unmarkK [] h5 fun h6 => .ok t4 h6)
noncomputable def r29 : K.KRun → List AV → H → K.KR := fun run args h => K.uncons args fun t0 l1 => K.unnil l1 (
K.boxK t0 h fun t2 h3 =>
K.fldK 0 t2 fun t4 =>
K.ldK ctx 3 t4 h3 fun t5 =>
K.callFK run 65 [t5, (.int .i64 (.ofNat 1)), (.int .i64 (.ofNat 4))] h3 fun t6 h7 =>
K.letK (fun (t8 : AV) (h9 : H) => K.letK (fun (t11 : AV) (h12 : H) => K.letK (fun (t14 : AV) (h15 : H) => K.pickK t6 t14 (.bool false) fun t17 =>
K.letK (fun (t18 : AV) (h19 : H) => K.letK (fun (t21 : AV) (h22 : H) => K.letK (fun (t24 : AV) (h25 : H) => K.pickK t17 t24 (.bool false) fun t27 =>
K.unmarkK [] h25 fun h28 => .ok t27 h28) fun j26 =>
K.guK true t17 (K.callFK run 65 [t21, (.int .i64 (.ofNat 2)), (.int .i64 (.ofNat 512))] h22 fun t29 h30 =>
j26 t29 h30) (j26 (.tup []) h22)) fun j23 =>
K.guK true t17 (K.ldK ctx 3 t18 h19 fun t31 =>
j23 t31 h19) (j23 (.tup []) h19)) fun j20 =>
K.guK true t17 (K.fldK 2 t2 fun t32 =>
j20 t32 h15) (j20 (.tup []) h15)) fun j16 =>
K.guK true t6 (K.callFK run 65 [t11, (.int .i64 (.ofNat 2)), (.int .i64 (.ofNat 64))] h12 fun t33 h34 =>
j16 t33 h34) (j16 (.tup []) h12)) fun j13 =>
K.guK true t6 (K.ldK ctx 3 t8 h9 fun t35 =>
j13 t35 h9) (j13 (.tup []) h9)) fun j10 =>
K.guK true t6 (K.fldK 1 t2 fun t36 =>
j10 t36 h7) (j10 (.tup []) h7))
noncomputable def r30 : K.KRun → List AV → H → K.KR := fun run args h => K.uncons args fun t0 l1 => K.unnil l1 (
K.eqK (K.binV ctx .eql 30 true t0 .nilPtr) t0 .nilPtr fun t2 =>
K.iteV t2 (
K.unmarkK [] h fun h3 => .ok (.int .i64 (.ofNat 0)) h3) (
K.nilK t0 fun t4 =>
K.fldK 0 t4 fun t5 =>
K.ldK ctx 83 t5 h fun t6 =>
K.lenVK t6 fun t7 =>
K.unmarkK [] h fun h8 => .ok t7 h8))
noncomputable def r31 : K.KRun → List AV → H → K.KR := fun run args h => K.uncons args fun t0 l1 => K.unnil l1 (
K.boxK t0 h fun t2 h3 =>
K.unmarkK [] h3 fun h4 => .ok (.func (.func 66) [] [t2]) h4)
noncomputable def r32 : K.KRun → List AV → H → K.KR := fun run args h => K.uncons args fun t0 l1 => K.uncons l1 fun t2 l3 => K.unnil l3 (
K.letK (fun (l4 : List AV) (m5 : List Nat) (h6 : H) => K.unnil l4 (
K.unmarkK m5 h6 fun h8 => .ok (.int .i64 (.ofNat 0)) h8)) fun j7 =>
K.loopV (nat_lit 1000000) (fun s12 l9 m10 h11 => K.uncons l9 fun t13 l14 => K.uncons l14 fun t15 l16 => K.uncons l16 fun t17 l18 => K.unnil l18 (
K.ltK (K.binV ctx .lss 3 false t17 t15) t17 t15 fun t19 =>
K.iteV t19 (
K.callVK run t13 [t17] h11 fun t20 h21 =>
K.neK (K.binV ctx .neq 32 true t20 (.int .i64 (.ofNat 0))) t20 (.int .i64 (.ofNat 0)) fun t22 =>
K.iteV t22 (
K.unmarkK m10 h21 fun h23 => .ok t20 h23) (
K.addK (K.binV ctx .add 3 true t17 (.int .i64 (.ofNat 1))) t17 (.int .i64 (.ofNat 1)) fun t24 =>
s12 [t13, t15, t24] m10 h21)) (
j7 [] m10 h11))) [t2, t0, (.int .i64 (.ofNat 0))] [] h)
noncomputable def r33 : K.KRun → List AV → H → K.KR := fun run args h => K.uncons args fun t0 l1 => K.uncons l1 fun t2 l3 => K.unnil l3 (
K.callFK run 62 [t0, t2, (.func (.func 67) [] [])] h fun t4 h5 =>
K.unmarkK [] h5 fun h6 => .ok t4 h6)
noncomputable def r34 : K.KRun → List AV → H → K.KR := fun run args h => K.uncons args fun t0 l1 => K.unnil l1 (
K.eqK (K.binV ctx .eql 30 true t0 .nilPtr) t0 .nilPtr fun t2 =>
K.iteV t2 (
K.unmarkK [] h fun h3 => .ok (.int .i64 (.ofNat 2)) h3) (
K.letK (fun (l4 : List AV) (m5 : List Nat) (h6 : H) => K.unnil l4 (
K.unmarkK m5 h6 fun h8 => .ok (.int .i64 (.ofNat 0)) h8)) fun j7 =>
K.nilK t0 fun t9 =>
K.fldK 0 t9 fun t10 =>
K.ldK ctx 83 t10 h fun t11 =>
K.callFK run 40 [t11] h fun t12 h13 =>
K.hNew h13 .marks fun r14 h15 => K.hNew h15 (.loop .ready none (K.mkT [11] [t12]) 3 r14) fun n16 h17 =>
K.rngK ctx run t12 n16 h17 (fun h19 => j7 [] (r14 :: []) h19) (fun h20 => K.unmarkK (r14 :: []) h20 fun h23 => .bad) fun i18 h21 => (Bool.rec (motive := fun _ => K.KR) (.bad) (j7 [] (r14 :: []) h21) (Nat.beq i18 0))))
noncomputable def r35 : K.KRun → List AV → H → K.KR := fun run args h => K.uncons args fun t0 l1 => K.unnil l1 (
K.boxK t0 h fun t2 h3 =>
K.ldsK ctx 25 3 t2 h3 fun t4 =>
K.callFK run 54 [t4, (.int .u8 (.ofNat 6)), (.int .i64 (.ofNat 0))] h3 fun t5 h6 =>
K.unmarkK [] h6 fun h7 => .ok t5 h7)
noncomputable def r36 : K.KRun → List AV → H → K.KR := fun run args h => K.uncons args fun t0 l1 => K.unnil l1 (
K.boxK t0 h fun t2 h3 =>
K.ldsK ctx 25 3 t2 h3 fun t4 =>
K.callFK run 54 [t4, (.int .u8 (.ofNat 7)), (.int .i64 (.ofNat 0))] h3 fun t5 h6 =>
K.unmarkK [] h6 fun h7 => .ok t5 h7)
noncomputable def r37 : K.KRun → List AV → H → K.KR := fun run args h => K.uncons args fun t0 l1 => K.uncons l1 fun t2 l3 => K.unnil l3 (
K.boxK t0 h fun t4 h5 =>
K.ldsK ctx 25 3 t4 h5 fun t6 =>
K.callFK run 54 [t6, (.int .u8 (.ofNat 8)), t2] h5 fun t7 h8 =>
K.unmarkK [] h8 fun h9 => .ok t7 h9)
noncomputable def r38 : K.KRun → List AV → H → K.KR := fun run args h => K.uncons args fun t0 l1 => K.uncons l1 fun t2 l3 => K.unnil l3 (
K.letK (fun (l4 : List AV) (m5 : List Nat) (h6 : H) => K.uncons l4 fun t8 l9 => K.unnil l9 (
K.unmarkK m5 h6 fun h10 => .ok t8 h10)) fun j7 =>
K.neK (K.binV ctx .neq 30 true t0 .nilPtr) t0 .nilPtr fun t11 =>
K.iteV t11 (
K.nilK t0 fun t12 =>
K.fldK 0 t12 fun t13 =>
K.ldK ctx 83 t13 h fun t14 =>
K.lenVK t14 fun t15 =>
K.loopV (nat_lit 1000000) (fun s19 l16 m17 h18 => K.uncons l16 fun t20 l21 => K.uncons l21 fun t22 l23 => K.uncons l23 fun t24 l25 => K.uncons l25 fun t26 l27 => K.uncons l27 fun t28 l29 => K.unnil l29 (
K.ltK (K.binV ctx .lss 3 false t28 t26) t28 t26 fun t30 =>
K.iteV t30 (
K.idxSK 6 t24 t28 fun t31 =>
K.ldsK ctx 78 6 t31 h18 fun t32 =>
K.allocK (K.zN ctx 78) (K.zT ctx 78) h18 fun t33 h34 =>
K.stsK 6 t33 t32 h34 fun h35 =>
K.ldsK ctx 78 6 t33 h35 fun t36 =>
K.callVK run t20 [t36] h35 fun t37 h38 =>
K.bslK ctx 37 1 1 [(0, t37)] h38 fun t39 h40 =>
K.appK ctx 37 1 t22 t39 h40 fun t41 h42 =>
K.addK (K.binV ctx .add 3 true t28 (.int .i64 (.ofNat 1))) t28 (.int .i64 (.ofNat 1)) fun t43 =>
s19 [t20, t41, t24, t26, t43] m17 h42) (
j7 [t22] m17 h18))) [t2, .nilSlice, t14, t15, (.int .i64 (.ofNat 0))] [] h) (
j7 [.nilSlice] [] h))
noncomputable def r39 : K.KRun → List AV → H → K.KR := fun run args h => K.uncons args fun t0 l1 => K.unnil l1 (
K.boxK t0 h fun t2 h3 =>
K.fldK 0 t2 fun t4 =>
K.ldK ctx 37 t4 h3 fun t5 =>
K.unmarkK [] h3 fun h6 => .ok t5 h6)
noncomputable def r40 : K.KRun → List AV → H → K.KR := fun run args h => K.uncons args fun t0 l1 => K.unnil l1 (
K.boxK t0 h fun t2 h3 =>
K.unmarkK [] h3 fun h4 => .ok (.func (.func 68) [] [t2]) h4)
noncomputable def r41 : K.KRun → List AV → H → K.KR := fun run args h => K.uncons args fun t0 l1 => K.unnil l1 (
K.allocK (K.zN ctx 25) (K.zT ctx 25) h fun t2 h3 =>
K.lenVK t0 fun t4 =>
K.ltK (K.binV ctx .lss 3 true t4 (.int .i64 (.ofNat 8))) t4 (.int .i64 (.ofNat 8)) fun t5 =>
K.letK (fun (t6 : AV) (h7 : H) => K.letK (fun (t9 : AV) (h10 : H) => K.letK (fun (t12 : AV) (h13 : H) => K.letK (fun (t15 : AV) (h16 : H) => K.pickK t5 (.bool true) t15 fun t18 =>
K.letK (fun (t19 : AV) (h20 : H) => K.letK (fun (t22 : AV) (h23 : H) => K.letK (fun (t25 : AV) (h26 : H) => K.letK (fun (t28 : AV) (h29 : H) => K.letK (fun (t31 : AV) (h32 : H) => K.letK (fun (t34 : AV) (h35 : H) => K.letK (fun (t37 : AV) (h38 : H) => K.letK (fun (t40 : AV) (h41 : H) => K.letK (fun (t43 : AV) (h44 : H) => K.letK (fun (t46 : AV) (h47 : H) => K.letK (fun (t49 : AV) (h50 : H) => K.pickK t18 (.bool true) t49 fun t52 =>
K.iteV t52 (
K.bldSK ctx 25 [] fun t53 =>
K.stsK 3 t2 t53 h50 fun h54 =>
K.unmarkK [] h54 fun h55 => K.asPtr t2 fun n56 n57 => K.loads h55 n56 n57 3 fun t58 => .ok (.tup [(.agg t58), (.bool false)]) h55) (
K.idxSK 1 t0 (.int .i64 (.ofNat 1)) fun t59 =>
K.ldK ctx 37 t59 h50 fun t60 =>
K.rK (convA ctx 37 3 t60 h50) fun t61 h62 =>
K.idxSK 1 t0 (.int .i64 (.ofNat 2)) fun t63 =>
K.ldK ctx 37 t63 h62 fun t64 =>
K.rK (convA ctx 37 3 t64 h62) fun t65 h66 =>
K.idxSK 1 t0 (.int .i64 (.ofNat 3)) fun t67 =>
K.ldK ctx 37 t67 h66 fun t68 =>
K.rK (convA ctx 37 3 t68 h66) fun t69 h70 =>
K.bldSK ctx 25 [(0, t61), (1, t65), (2, t69)] fun t71 =>
K.stsK 3 t2 t71 h70 fun h72 =>
K.ldsK ctx 25 3 t2 h72 fun t73 =>
K.callFK run 29 [t73] h72 fun t74 h75 =>
K.notK t74 fun t76 =>
K.letK (fun (t77 : AV) (h78 : H) => K.letK (fun (t80 : AV) (h81 : H) => K.letK (fun (t83 : AV) (h84 : H) => K.letK (fun (t86 : AV) (h87 : H) => K.letK (fun (t89 : AV) (h90 : H) => K.pickK t76 (.bool true) t89 fun t92 =>
K.iteV t92 (
K.bldSK ctx 25 [] fun t93 =>
K.stsK 3 t2 t93 h90 fun h94 =>
K.unmarkK [] h94 fun h95 => K.asPtr t2 fun n96 n97 => K.loads h95 n96 n97 3 fun t98 => .ok (.tup [(.agg t98), (.bool false)]) h95) (
K.ldsK ctx 25 3 t2 h90 fun t99 =>
K.stsK 3 t2 t99 h90 fun h100 =>
K.unmarkK [] h100 fun h101 => K.asPtr t2 fun n102 n103 => K.loads h101 n102 n103 3 fun t104 => .ok (.tup [(.agg t104), (.bool true)]) h101)) fun j91 =>
K.guK false t76 (K.ltK (K.binV ctx .lss 3 false t80 t86) t80 t86 fun t105 =>
j91 t105 h87) (j91 (.tup []) h87)) fun j88 =>
K.guK false t76 (K.callFK run 16 [t83] h84 fun t106 h107 =>
j88 t106 h107) (j88 (.tup []) h84)) fun j85 =>
K.guK false t76 (K.ldsK ctx 25 3 t2 h81 fun t108 =>
j85 t108 h81) (j85 (.tup []) h81)) fun j82 =>
K.guK false t76 (K.lenVK t77 fun t109 =>
j82 t109 h78) (j82 (.tup []) h78)) fun j79 =>
K.guK false t76 (j79 t0 h75) (j79 (.tup []) h75))) fun j51 =>
K.guK false t18 (K.gtK (K.binV ctx .gtr 37 true t46 (.int .u64 (.ofNat 512))) t46 (.int .u64 (.ofNat 512)) fun t110 =>
j51 t110 h47) (j51 (.tup []) h47)) fun j48 =>
K.guK false t18 (K.slowK ctx run (K.opAt Go.Proofs.Tryz.f41 1 19) [16, 19, 22] [t25, t34, t43] h44 fun t111 h112 =>
j48 t111 h112) (j48 (.tup []) h44)) fun j45 =>
K.guK false t18 (K.ldK ctx 37 t40 h41 fun t113 =>
j45 t113 h41) (j45 (.tup []) h41)) fun j42 =>
K.guK false t18 (K.idxSK 1 t37 (.int .i64 (.ofNat 3)) fun t114 =>
j42 t114 h38) (j42 (.tup []) h38)) fun j39 =>
K.guK false t18 (j39 t0 h35) (j39 (.tup []) h35)) fun j36 =>
K.guK false t18 (K.ldK ctx 37 t31 h32 fun t115 =>
j36 t115 h32) (j36 (.tup []) h32)) fun j33 =>
K.guK false t18 (K.idxSK 1 t28 (.int .i64 (.ofNat 2)) fun t116 =>
j33 t116 h29) (j33 (.tup []) h29)) fun j30 =>
K.guK false t18 (j30 t0 h26) (j30 (.tup []) h26)) fun j27 =>
K.guK false t18 (K.ldK ctx 37 t22 h23 fun t117 =>
j27 t117 h23) (j27 (.tup []) h23)) fun j24 =>
K.guK false t18 (K.idxSK 1 t19 (.int .i64 (.ofNat 1)) fun t118 =>
j24 t118 h20) (j24 (.tup []) h20)) fun j21 =>
K.guK false t18 (j21 t0 h16) (j21 (.tup []) h16)) fun j17 =>
K.guK false t5 (K.neK (K.binV ctx .neq 37 true t12 (.int .u64 (.ofNat 32762617960297063))) t12 (.int .u64 (.ofNat 32762617960297063)) fun t119 =>
j17 t119 h13) (j17 (.tup []) h13)) fun j14 =>
K.guK false t5 (K.ldK ctx 37 t9 h10 fun t120 =>
j14 t120 h10) (j14 (.tup []) h10)) fun j11 =>
K.guK false t5 (K.idxSK 1 t6 (.int .i64 (.ofNat 0)) fun t121 =>
j11 t121 h7) (j11 (.tup []) h7)) fun j8 =>
K.guK false t5 (j8 t0 h3) (j8 (.tup []) h3))
noncomputable def r42 : K.KRun → List AV → H → K.KR := fun run args h => K.uncons args fun t0 l1 => K.unnil l1 (
K.callFK run 38 [t0, (.func (.func 69) [] [])] h fun t2 h3 =>
K.unmarkK [] h3 fun h4 => .ok t2 h4)
noncomputable def r43 : K.KRun → List AV → H → K.KR := fun run args h => K.uncons args fun t0 l1 => K.uncons l1 fun t2 l3 => K.unnil l3 (
K.letK (fun (l4 : List AV) (m5 : List Nat) (h6 : H) => K.uncons l4 fun t8 l9 => K.unnil l9 (
K.nilK t8 fun t10 =>
K.fldK 5 t10 fun t11 =>
K.stK t11 .nilPtr h6 fun h12 =>
K.unmarkK m5 h12 fun h13 => .ok (.tup []) h13)) fun j7 =>
K.nilK t0 fun t14 =>
K.fldK 4 t14 fun t15 =>
K.stK t15 t2 h fun h16 =>
K.loopV (nat_lit 1000000) (fun s20 l17 m18 h19 => K.uncons l17 fun t21 l22 => K.unnil l22 (
K.nilK t21 fun t23 =>
K.fldK 4 t23 fun t24 =>
K.ldK ctx 3 t24 h19 fun t25 =>
K.nilK t21 fun t26 =>
K.fldK 1 t26 fun t27 =>
K.fldK 0 t27 fun t28 =>
K.ldK ctx 3 t28 h19 fun t29 =>
K.ltK (K.binV ctx .lss 3 false t25 t29) t25 t29 fun t30 =>
K.iteV t30 (
K.letK (fun (l31 : List AV) (m32 : List Nat) (h33 : H) => K.uncons l31 fun t35 l36 => K.unnil l36 (
K.nilK t35 fun t37 =>
K.fldK 4 t37 fun t38 =>
K.ldK ctx 3 t38 h33 fun t39 =>
K.addK (K.binV ctx .add 3 true t39 (.int .i64 (.ofNat 1))) t39 (.int .i64 (.ofNat 1)) fun t40 =>
K.nilK t35 fun t41 =>
K.fldK 4 t41 fun t42 =>
K.stK t42 t40 h33 fun h43 =>
s20 [t35] m32 h43)) fun j34 =>
K.nilK t21 fun t44 =>
K.fldK 0 t44 fun t45 =>
K.ldK ctx 30 t45 h19 fun t46 =>
K.nilK t21 fun t47 =>
K.fldK 1 t47 fun t48 =>
K.ldsK ctx 25 3 t48 h19 fun t49 =>
K.nilK t21 fun t50 =>
K.fldK 4 t50 fun t51 =>
K.ldK ctx 3 t51 h19 fun t52 =>
K.callFK run 17 [t46, t49, t52] h19 fun t53 h54 =>
K.extK t53 0 fun t55 =>
K.extK t53 1 fun t56 =>
K.neK (K.binV ctx .neq 32 true t56 (.int .i64 (.ofNat 0))) t56 (.int .i64 (.ofNat 0)) fun t57 =>
K.iteV t57 (
j34 [t21] m18 h54) (
K.callFK run 70 [t55] h54 fun t58 h59 =>
K.extK t58 0 fun t60 =>
K.extK t58 1 fun t61 =>
K.notK t60 fun t62 =>
K.letK (fun (t63 : AV) (h64 : H) => K.letK (fun (t66 : AV) (h67 : H) => K.pickK t62 (.bool true) t66 fun t69 =>
K.iteV t69 (
j34 [t21] m18 h67) (
K.nilK t21 fun t70 =>
K.fldK 5 t70 fun t71 =>
K.stK t71 t55 h67 fun h72 =>
K.unmarkK m18 h72 fun h73 => .ok (.tup []) h73)) fun j68 =>
K.guK false t62 (K.neK (K.binV ctx .neq 32 true t63 (.int .i64 (.ofNat 0))) t63 (.int .i64 (.ofNat 0)) fun t74 =>
j68 t74 h64) (j68 (.tup []) h64)) fun j65 =>
K.guK false t62 (j65 t61 h59) (j65 (.tup []) h59))) (
j7 [t21] m18 h19))) [t0] [] h16)
noncomputable def r44 : K.KRun → List AV → H → K.KR := fun run args h => K.uncons args fun t0 l1 => K.unnil l1 (
K.eqK (K.binV ctx .eql 46 true t0 .nilPtr) t0 .nilPtr fun t2 =>
K.iteV t2 (
K.unmarkK [] h fun h3 => .ok (.int .i64 (.ofNat 0)) h3) (
K.nilK t0 fun t4 =>
K.fldK 5 t4 fun t5 =>
K.ldK ctx 96 t5 h fun t6 =>
K.lenVK t6 fun t7 =>
K.unmarkK [] h fun h8 => .ok t7 h8))
end YtbigljebnajniabGreatMfM
