/- PRINTED BY Gen2.lean (own): functions as plain texts, part 0. -/
import Derived.Test.YtbjhhgiigjnfeaaCtx
namespace YtbjhhgiigjnfeaaM
open Go Am
set_option maxRecDepth 100000
noncomputable def r3 : K.KRun → List AV → H → K.KR := fun run args h => K.uncons args fun t0 l1 => K.unnil l1 (
K.boxK t0 h fun t2 h3 =>
K.callFK run 4 [.nilPtr] h3 fun t4 h5 =>
K.extK t4 0 fun t6 =>
K.extK t4 1 fun t7 =>
K.callFK run 5 [.nilPtr] h5 fun t8 h9 =>
K.extK t8 0 fun t10 =>
K.extK t8 1 fun t11 =>
K.callFK run 6 [(.int .i64 (.ofNat 64))] h9 fun t12 h13 =>
K.extK t12 0 fun t14 =>
K.extK t12 1 fun t15 =>
K.eqK (K.binV ctx .eql 31 true t14 .nilPtr) t14 .nilPtr fun t16 =>
K.letK (fun (t17 : AV) (h18 : H) => K.letK (fun (t20 : AV) (h21 : H) => K.pickK t16 (.bool true) t20 fun t23 =>
K.iteV t23 (
K.unmarkK [] h21 fun h24 => .ok (.bool false) h24) (
K.callFK run 4 [t14] h21 fun t25 h26 =>
K.extK t25 0 fun t27 =>
K.extK t25 1 fun t28 =>
K.callFK run 7 [(.int .u8 (.ofNat 0)), (.int .u8 (.ofNat 0))] h26 fun t29 h30 =>
K.allocK (K.zN ctx 23) (K.zT ctx 23) h30 fun t31 h32 =>
K.stsK 3 t31 t29 h32 fun h33 =>
K.eqK (K.binV ctx .eql 25 true t7 (.int .i64 (.ofNat 2))) t7 (.int .i64 (.ofNat 2)) fun t34 =>
K.letK (fun (t35 : AV) (h36 : H) => K.letK (fun (t38 : AV) (h39 : H) => K.pickK t34 t38 (.bool false) fun t41 =>
K.letK (fun (t42 : AV) (h43 : H) => K.letK (fun (t45 : AV) (h46 : H) => K.pickK t41 t45 (.bool false) fun t48 =>
K.letK (fun (t49 : AV) (h50 : H) => K.letK (fun (t52 : AV) (h53 : H) => K.pickK t48 t52 (.bool false) fun t55 =>
K.letK (fun (t56 : AV) (h57 : H) => K.letK (fun (t59 : AV) (h60 : H) => K.letK (fun (t62 : AV) (h63 : H) => K.pickK t55 t62 (.bool false) fun t65 =>
K.letK (fun (t66 : AV) (h67 : H) => K.letK (fun (t69 : AV) (h70 : H) => K.letK (fun (t72 : AV) (h73 : H) => K.pickK t65 t72 (.bool false) fun t75 =>
K.letK (fun (t76 : AV) (h77 : H) => K.letK (fun (t79 : AV) (h80 : H) => K.letK (fun (t82 : AV) (h83 : H) => K.letK (fun (t85 : AV) (h86 : H) => K.pickK t75 t85 (.bool false) fun t88 =>
K.letK (fun (t89 : AV) (h90 : H) => K.letK (fun (t92 : AV) (h93 : H) => K.letK (fun (t95 : AV) (h96 : H) => K.pickK t88 t95 (.bool false) fun t98 =>
K.letK (fun (t99 : AV) (h100 : H) => K.letK (fun (t102 : AV) (h103 : H) => K.pickK t98 t102 (.bool false) fun t105 =>
K.letK (fun (t106 : AV) (h107 : H) => K.letK (fun (t109 : AV) (h110 : H) => K.pickK t105 t109 (.bool false) fun t112 =>
K.letK (fun (t113 : AV) (h114 : H) => K.letK (fun (t116 : AV) (h117 : H) => K.letK (fun (t119 : AV) (h120 : H) => K.letK (fun (t122 : AV) (h123 : H) => K.pickK t112 t122 (.bool false) fun t125 =>
K.letK (fun (t126 : AV) (h127 : H) => K.letK (fun (t129 : AV) (h130 : H) => K.letK (fun (t132 : AV) (h133 : H) => K.letK (fun (t135 : AV) (h136 : H) => K.pickK t125 t135 (.bool false) fun t138 =>
K.letK (fun (t139 : AV) (h140 : H) => K.pickK t138 t139 (.bool false) fun t142 =>
K.unmarkK [] h140 fun h143 => .ok t142 h143) fun j141 =>
K.guK true t138 (K.callFK run 12 [] h136 fun t144 h145 =>
j141 t144 h145) (j141 (.tup []) h136)) fun j137 =>
K.guK true t125 (K.eqK (K.binV ctx .eql 25 true t132 (.int .i64 (.ofNat 8))) t132 (.int .i64 (.ofNat 8)) fun t146 =>
j137 t146 h133) (j137 (.tup []) h133)) fun j134 =>
K.guK true t125 (K.callFK run 11 [t126, t129] h130 fun t147 h148 =>
j134 t147 h148) (j134 (.tup []) h130)) fun j131 =>
K.guK true t125 (K.ldsK ctx 23 3 t31 h127 fun t149 =>
j131 t149 h127) (j131 (.tup []) h127)) fun j128 =>
K.guK true t125 (j128 t14 h123) (j128 (.tup []) h123)) fun j124 =>
K.guK true t112 (K.eqK (K.binV ctx .eql 25 true t119 (.int .i64 (.ofNat 1))) t119 (.int .i64 (.ofNat 1)) fun t150 =>
j124 t150 h120) (j124 (.tup []) h120)) fun j121 =>
K.guK true t112 (K.callFK run 11 [t113, t116] h117 fun t151 h152 =>
j121 t151 h152) (j121 (.tup []) h117)) fun j118 =>
K.guK true t112 (K.bldSK ctx 23 [] fun t153 =>
j118 t153 h114) (j118 (.tup []) h114)) fun j115 =>
K.guK true t112 (j115 t14 h110) (j115 (.tup []) h110)) fun j111 =>
K.guK true t105 (K.eqK (K.binV ctx .eql 24 true t106 .nilPtr) t106 .nilPtr fun t154 =>
j111 t154 h107) (j111 (.tup []) h107)) fun j108 =>
K.guK true t105 (j108 t27 h103) (j108 (.tup []) h103)) fun j104 =>
K.guK true t98 (K.eqK (K.binV ctx .eql 25 true t99 (.int .i64 (.ofNat 4))) t99 (.int .i64 (.ofNat 4)) fun t155 =>
j104 t155 h100) (j104 (.tup []) h100)) fun j101 =>
K.guK true t98 (j101 t28 h96) (j101 (.tup []) h96)) fun j97 =>
K.guK true t88 (K.eqK (K.binV ctx .eql 25 true t92 (.int .i64 (.ofNat 2))) t92 (.int .i64 (.ofNat 2)) fun t156 =>
j97 t156 h93) (j97 (.tup []) h93)) fun j94 =>
K.guK true t88 (K.callFK run 11 [.nilPtr, t89] h90 fun t157 h158 =>
j94 t157 h158) (j94 (.tup []) h90)) fun j91 =>
K.guK true t88 (K.ldsK ctx 23 3 t2 h86 fun t159 =>
j91 t159 h86) (j91 (.tup []) h86)) fun j87 =>
K.guK true t75 (K.eqK (K.binV ctx .eql 23 false t79 t82) t79 t82 fun t160 =>
j87 t160 h83) (j87 (.tup []) h83)) fun j84 =>
K.guK true t75 (K.bldSK ctx 23 [] fun t161 =>
j84 t161 h80) (j84 (.tup []) h80)) fun j81 =>
K.guK true t75 (K.callFK run 10 [t76] h77 fun t162 h163 =>
j81 t162 h163) (j81 (.tup []) h77)) fun j78 =>
K.guK true t75 (j78 .nilPtr h73) (j78 (.tup []) h73)) fun j74 =>
K.guK true t65 (K.eqK (K.binV ctx .eql 3 true t69 (.int .i64 (.ofNat 0))) t69 (.int .i64 (.ofNat 0)) fun t164 =>
j74 t164 h70) (j74 (.tup []) h70)) fun j71 =>
K.guK true t65 (K.callFK run 9 [t66] h67 fun t165 h166 =>
j71 t165 h166) (j71 (.tup []) h67)) fun j68 =>
K.guK true t65 (j68 .nilPtr h63) (j68 (.tup []) h63)) fun j64 =>
K.guK true t55 (K.eqK (K.binV ctx .eql 3 true t59 (.int .i64 (.ofNat 0))) t59 (.int .i64 (.ofNat 0)) fun t167 =>
j64 t167 h60) (j64 (.tup []) h60)) fun j61 =>
K.guK true t55 (K.callFK run 8 [t56] h57 fun t168 h169 =>
j61 t168 h169) (j61 (.tup []) h57)) fun j58 =>
K.guK true t55 (j58 .nilPtr h53) (j58 (.tup []) h53)) fun j54 =>
K.guK true t48 (K.eqK (K.binV ctx .eql 25 true t49 (.int .i64 (.ofNat 2))) t49 (.int .i64 (.ofNat 2)) fun t170 =>
j54 t170 h50) (j54 (.tup []) h50)) fun j51 =>
K.guK true t48 (j51 t11 h46) (j51 (.tup []) h46)) fun j47 =>
K.guK true t41 (K.eqK (K.binV ctx .eql 28 true t42 (.int .u8 (.ofNat 0))) t42 (.int .u8 (.ofNat 0)) fun t171 =>
j47 t171 h43) (j47 (.tup []) h43)) fun j44 =>
K.guK true t41 (j44 t10 h39) (j44 (.tup []) h39)) fun j40 =>
K.guK true t34 (K.eqK (K.binV ctx .eql 24 true t35 .nilPtr) t35 .nilPtr fun t172 =>
j40 t172 h36) (j40 (.tup []) h36)) fun j37 =>
K.guK true t34 (j37 t6 h33) (j37 (.tup []) h33))) fun j22 =>
K.guK false t16 (K.neK (K.binV ctx .neq 25 true t17 (.int .i64 (.ofNat 0))) t17 (.int .i64 (.ofNat 0)) fun t173 =>
j22 t173 h18) (j22 (.tup []) h18)) fun j19 =>
K.guK false t16 (j19 t15 h13) (j19 (.tup []) h13))
noncomputable def r4 : K.KRun → List AV → H → K.KR := fun run args h => K.uncons args fun t0 l1 => K.unnil l1 (
K.eqK (K.binV ctx .eql 31 true t0 .nilPtr) t0 .nilPtr fun t2 =>
K.iteV t2 (
K.unmarkK [] h fun h3 => .ok (.tup [.nilPtr, (.int .i64 (.ofNat 2))]) h3) (
K.callFK run 14 [t0] h fun t4 h5 =>
K.callFK run 13 [t4] h5 fun t6 h7 =>
K.extK t6 0 fun t8 =>
K.extK t6 1 fun t9 =>
K.allocK (K.zN ctx 23) (K.zT ctx 23) h7 fun t10 h11 =>
K.stsK 3 t10 t8 h11 fun h12 =>
K.notK t9 fun t13 =>
K.iteV t13 (
K.unmarkK [] h12 fun h14 => .ok (.tup [.nilPtr, (.int .i64 (.ofNat 4))]) h14) (
K.ldsK ctx 23 3 t10 h12 fun t15 =>
K.bldSK ctx 46 [(0, t0), (1, t15)] fun t16 =>
K.boxK t16 h12 fun t17 h18 =>
K.callFK run 15 [t17, (.int .i64 (.ofNat 0))] h18 fun t19 h20 =>
K.unmarkK [] h20 fun h21 => .ok (.tup [t17, (.int .i64 (.ofNat 0))]) h21)))
noncomputable def r5 : K.KRun → List AV → H → K.KR := fun run args h => K.uncons args fun t0 l1 => K.unnil l1 (
K.eqK (K.binV ctx .eql 24 true t0 .nilPtr) t0 .nilPtr fun t2 =>
K.iteV t2 (
K.unmarkK [] h fun h3 => .ok (.tup [(.int .u8 (.ofNat 0)), (.int .i64 (.ofNat 2))]) h3) (
K.nilK t0 fun t4 =>
K.fldK 5 t4 fun t5 =>
K.ldK ctx 44 t5 h fun t6 =>
K.eqK (K.binV ctx .eql 44 true t6 .nilPtr) t6 .nilPtr fun t7 =>
K.iteV t7 (
K.unmarkK [] h fun h8 => .ok (.tup [(.int .u8 (.ofNat 0)), (.int .i64 (.ofNat 3))]) h8) (
K.nilK t0 fun t9 =>
K.fldK 5 t9 fun t10 =>
K.ldK ctx 44 t10 h fun t11 =>
K.callFK run 16 [t11] h fun t12 h13 =>
K.extK t12 0 fun t14 =>
K.extK t12 1 fun t15 =>
K.letK (fun (l16 : List AV) (m17 : List Nat) (h18 : H) => K.uncons l16 fun t20 l21 => K.uncons l21 fun t22 l23 => K.unnil l23 (
K.unmarkK m17 h18 fun h24 => .ok (.tup [t20, t22]) h24)) fun j19 =>
K.nilK t0 fun t25 =>
K.fldK 5 t25 fun t26 =>
K.ldK ctx 44 t26 h13 fun t27 =>
K.callFK run 17 [t27] h13 fun t28 h29 =>
K.eqK (K.binV ctx .eql 3 true t28 (.int .i64 (.ofNat 0))) t28 (.int .i64 (.ofNat 0)) fun t30 =>
K.iteV t30 (
K.nilK t0 fun t31 =>
K.fldK 4 t31 fun t32 =>
K.ldK ctx 3 t32 h29 fun t33 =>
K.addK (K.binV ctx .add 3 true t33 (.int .i64 (.ofNat 1))) t33 (.int .i64 (.ofNat 1)) fun t34 =>
K.callFK run 15 [t0, t34] h29 fun t35 h36 =>
j19 [t14, t15] [] h36) (
j19 [t14, t15] [] h29))))
noncomputable def r6 : K.KRun → List AV → H → K.KR := fun run args h => K.uncons args fun t0 l1 => K.unnil l1 (
K.ltK (K.binV ctx .lss 3 true t0 (.int .i64 (.ofNat 8))) t0 (.int .i64 (.ofNat 8)) fun t2 =>
K.letK (fun (t3 : AV) (h4 : H) => K.letK (fun (t6 : AV) (h7 : H) => K.pickK t2 (.bool true) t6 fun t9 =>
K.letK (fun (t10 : AV) (h11 : H) => K.letK (fun (t13 : AV) (h14 : H) => K.letK (fun (t16 : AV) (h17 : H) => K.pickK t9 (.bool true) t16 fun t19 =>
K.iteV t19 (
K.unmarkK [] h17 fun h20 => .ok (.tup [.nilPtr, (.int .i64 (.ofNat 1))]) h20) (
K.mslK ctx 77 6 t0 t0 h17 fun t21 h22 =>
K.bldSK ctx 50 [(0, t21)] fun t23 =>
K.boxK t23 h22 fun t24 h25 =>
K.unmarkK [] h25 fun h26 => .ok (.tup [t24, (.int .i64 (.ofNat 0))]) h26)) fun j18 =>
K.guK false t9 (K.neK (K.binV ctx .neq 3 true t13 (.int .i64 (.ofNat 0))) t13 (.int .i64 (.ofNat 0)) fun t27 =>
j18 t27 h14) (j18 (.tup []) h14)) fun j15 =>
K.guK false t9 (K.oK (K.binV ctx .rem 3 true t10 (.int .i64 (.ofNat 8))) fun t28 =>
j15 t28 h11) (j15 (.tup []) h11)) fun j12 =>
K.guK false t9 (j12 t0 h7) (j12 (.tup []) h7)) fun j8 =>
K.guK false t2 (K.gtK (K.binV ctx .gtr 3 true t3 (.int .i64 (.ofNat 65536))) t3 (.int .i64 (.ofNat 65536)) fun t29 =>
j8 t29 h4) (j8 (.tup []) h4)) fun j5 =>
K.guK false t2 (j5 t0 h) (j5 (.tup []) h))
noncomputable def r7 : K.KRun → List AV → H → K.KR := fun run args h => K.uncons args fun t0 l1 => K.uncons l1 fun t2 l3 => K.unnil l3 (
K.allocK (K.zN ctx 23) (K.zT ctx 23) h fun t4 h5 =>
K.callFK run 18 [t2] h5 fun t6 h7 =>
K.allocK (K.zN ctx 23) (K.zT ctx 23) h7 fun t8 h9 =>
K.stsK 3 t8 t6 h9 fun h10 =>
K.rK (convA ctx 5 3 t0 h10) fun t11 h12 =>
K.oK (K.binV ctx .rem 3 true t11 (.int .i64 (.ofNat 4))) fun t13 =>
K.addK (K.binV ctx .add 3 true (.int .i64 (.ofNat 1)) t13) (.int .i64 (.ofNat 1)) t13 fun t14 =>
K.fldK 0 t8 fun t15 =>
K.stK t15 t14 h12 fun h16 =>
K.ldsK ctx 23 3 t8 h16 fun t17 =>
K.stsK 3 t4 t17 h16 fun h18 =>
K.unmarkK [] h18 fun h19 => K.asPtr t4 fun n20 n21 => K.loads h19 n20 n21 3 fun t22 => .ok (.agg t22) h19)
noncomputable def r8 : K.KRun → List AV → H → K.KR := fun run args h => K.uncons args fun t0 l1 => K.unnil l1 (
K.eqK (K.binV ctx .eql 24 true t0 .nilPtr) t0 .nilPtr fun t2 =>
K.letK (fun (t3 : AV) (h4 : H) => K.letK (fun (t6 : AV) (h7 : H) => K.letK (fun (t9 : AV) (h10 : H) => K.letK (fun (t12 : AV) (h13 : H) => K.letK (fun (t15 : AV) (h16 : H) => K.pickK t2 (.bool true) t15 fun t18 =>
K.iteV t18 (
K.unmarkK [] h16 fun h19 => .ok (.int .i64 (.ofNat 0)) h19) (
K.nilK t0 fun t20 =>
K.fldK 5 t20 fun t21 =>
K.ldK ctx 44 t21 h16 fun t22 =>
K.callFK run 17 [t22] h16 fun t23 h24 =>
K.unmarkK [] h24 fun h25 => .ok t23 h25)) fun j17 =>
K.guK false t2 (K.eqK (K.binV ctx .eql 44 true t12 .nilPtr) t12 .nilPtr fun t26 =>
j17 t26 h13) (j17 (.tup []) h13)) fun j14 =>
K.guK false t2 (K.ldK ctx 44 t9 h10 fun t27 =>
j14 t27 h10) (j14 (.tup []) h10)) fun j11 =>
K.guK false t2 (K.fldK 5 t6 fun t28 =>
j11 t28 h7) (j11 (.tup []) h7)) fun j8 =>
K.guK false t2 (K.nilK t3 fun t29 =>
j8 t29 h4) (j8 (.tup []) h4)) fun j5 =>
K.guK false t2 (j5 t0 h) (j5 (.tup []) h))
noncomputable def r9 : K.KRun → List AV → H → K.KR := fun run args h => K.uncons args fun t0 l1 => K.unnil l1 (
K.eqK (K.binV ctx .eql 24 true t0 .nilPtr) t0 .nilPtr fun t2 =>
K.iteV t2 (
K.unmarkK [] h fun h3 => .ok (.int .i64 (.ofNat 0)) h3) (
K.nilK t0 fun t4 =>
K.fldK 4 t4 fun t5 =>
K.ldK ctx 3 t5 h fun t6 =>
K.unmarkK [] h fun h7 => .ok t6 h7))
noncomputable def r10 : K.KRun → List AV → H → K.KR := fun run args h => K.uncons args fun t0 l1 => K.unnil l1 (
K.allocK (K.zN ctx 23) (K.zT ctx 23) h fun t2 h3 =>
K.eqK (K.binV ctx .eql 24 true t0 .nilPtr) t0 .nilPtr fun t4 =>
K.iteV t4 (
K.bldSK ctx 23 [] fun t5 =>
K.stsK 3 t2 t5 h3 fun h6 =>
K.unmarkK [] h6 fun h7 => K.asPtr t2 fun n8 n9 => K.loads h7 n8 n9 3 fun t10 => .ok (.agg t10) h7) (
K.nilK t0 fun t11 =>
K.fldK 1 t11 fun t12 =>
K.ldsK ctx 23 3 t12 h3 fun t13 =>
K.stsK 3 t2 t13 h3 fun h14 =>
K.unmarkK [] h14 fun h15 => K.asPtr t2 fun n16 n17 => K.loads h15 n16 n17 3 fun t18 => .ok (.agg t18) h15))
noncomputable def r11 : K.KRun → List AV → H → K.KR := fun run args h => K.uncons args fun t0 l1 => K.uncons l1 fun t2 l3 => K.unnil l3 (
K.boxK t0 h fun t4 h5 =>
K.boxK t2 h5 fun t6 h7 =>
K.allocK (K.zN ctx 25) (K.zT ctx 25) h7 fun t8 h9 =>
K.ldK ctx 31 t4 h9 fun t10 =>
K.eqK (K.binV ctx .eql 31 true t10 .nilPtr) t10 .nilPtr fun t11 =>
K.iteV t11 (
K.stK t8 (.int .i64 (.ofNat 2)) h9 fun h12 =>
K.unmarkK [] h12 fun h13 => K.asPtr t8 fun n14 n15 => K.load1 h13 n14 n15 fun t16 => .ok t16 h13) (
K.ldsK ctx 23 3 t6 h9 fun t17 =>
K.callFK run 19 [t17] h9 fun t18 h19 =>
K.notK t18 fun t20 =>
K.iteV t20 (
K.stK t8 (.int .i64 (.ofNat 1)) h19 fun h21 =>
K.unmarkK [] h21 fun h22 => K.asPtr t8 fun n23 n24 => K.load1 h22 n23 n24 fun t25 => .ok t25 h22) (
K.ldK ctx 31 t4 h19 fun t26 =>
K.ldsK ctx 23 3 t6 h19 fun t27 =>
K.callFK run 20 [t26] h19 fun t28 h29 =>
K.ldsK ctx 23 3 t6 h29 fun t30 =>
K.req (AV.same t27 t30) (
K.callFK run 21 [t27] h29 fun t31 h32 =>
K.ltK (K.binV ctx .lss 3 false t28 t31) t28 t31 fun t33 =>
K.iteV t33 (
K.stK t8 (.int .i64 (.ofNat 8)) h32 fun h34 =>
K.unmarkK [] h34 fun h35 => K.asPtr t8 fun n36 n37 => K.load1 h35 n36 n37 fun t38 => .ok t38 h35) (
K.ldsK ctx 23 3 t6 h32 fun t39 =>
K.callFK run 22 [t39] h32 fun t40 h41 =>
K.letK (fun (l42 : List AV) (m43 : List Nat) (h44 : H) => K.uncons l42 fun t46 l47 => K.uncons l47 fun t48 l49 => K.uncons l49 fun t50 l51 => K.unnil l51 (
K.lenVK t50 fun t52 =>
K.addK (K.binV ctx .add 3 true t52 (.int .i64 (.ofNat 8))) t52 (.int .i64 (.ofNat 8)) fun t53 =>
K.subK (K.binV ctx .sub 3 true t53 (.int .i64 (.ofNat 1))) t53 (.int .i64 (.ofNat 1)) fun t54 =>
K.oK (K.binV ctx .quo 3 true t54 (.int .i64 (.ofNat 8))) fun t55 =>
K.ldK ctx 31 t46 h44 fun t56 =>
K.callFK run 25 [t55, (.func (.func 26) [t56] [])] h44 fun t57 h58 =>
K.neK (K.binV ctx .neq 25 true t57 (.int .i64 (.ofNat 0))) t57 (.int .i64 (.ofNat 0)) fun t59 =>
K.iteV t59 (
K.stK t48 t57 h58 fun h60 =>
K.unmarkK m43 h60 fun h61 => K.asPtr t48 fun n62 n63 => K.load1 h61 n62 n63 fun t64 => .ok t64 h61) (
K.ldK ctx 31 t46 h58 fun t65 =>
K.callFK run 27 [t65] h58 fun t66 h67 =>
K.stK t48 t66 h67 fun h68 =>
K.unmarkK m43 h68 fun h69 => K.asPtr t48 fun n70 n71 => K.load1 h69 n70 n71 fun t72 => .ok t72 h69))) fun j45 =>
K.callFK run 23 [t40] h41 fun t73 h74 =>
K.hNew h74 .marks fun r75 h76 => K.hNew h76 (.loop .ready none (K.mkT [2, 4, 5, 26] [t4, t8, t40, t73]) 1 r75) fun n77 h78 =>
K.rngK ctx run t73 n77 h78 (fun h80 => j45 [t4, t8, t40] (r75 :: []) h80) (fun h81 => K.unmarkK (r75 :: []) h81 fun h84 => K.asPtr t8 fun n85 n86 => K.load1 h84 n85 n86 fun t87 => .ok t87 h84) fun i79 h82 => (Bool.rec (motive := fun _ => K.KR) (.bad) (j45 [t4, t8, t40] (r75 :: []) h82) (Nat.beq i79 1)))))))
noncomputable def r12 : K.KRun → List AV → H → K.KR := fun run args h => K.unnil args (
K.bldSK ctx 23 [(0, (.int .i64 (.ofNat 1))), (1, (.int .i64 (.ofNat 2))), (2, (.int .i64 (.ofNat 2)))] fun t0 =>
K.allocK (K.zN ctx 23) (K.zT ctx 23) h fun t1 h2 =>
K.stsK 3 t1 t0 h2 fun h3 =>
K.ldsK ctx 23 3 t1 h3 fun t4 =>
K.callFK run 21 [t4] h3 fun t5 h6 =>
K.callFK run 6 [t5] h6 fun t7 h8 =>
K.extK t7 0 fun t9 =>
K.extK t7 1 fun t10 =>
K.eqK (K.binV ctx .eql 31 true t9 .nilPtr) t9 .nilPtr fun t11 =>
K.letK (fun (t12 : AV) (h13 : H) => K.letK (fun (t15 : AV) (h16 : H) => K.pickK t11 (.bool true) t15 fun t18 =>
K.letK (fun (t19 : AV) (h20 : H) => K.letK (fun (t22 : AV) (h23 : H) => K.letK (fun (t25 : AV) (h26 : H) => K.letK (fun (t28 : AV) (h29 : H) => K.pickK t18 (.bool true) t28 fun t31 =>
K.iteV t31 (
K.unmarkK [] h29 fun h32 => .ok (.bool false) h32) (
K.callFK run 4 [t9] h29 fun t33 h34 =>
K.extK t33 0 fun t35 =>
K.extK t33 1 fun t36 =>
K.ldsK ctx 23 3 t1 h34 fun t37 =>
K.callFK run 28 [t9, t37, (.int .i64 (.ofNat 0))] h34 fun t38 h39 =>
K.extK t38 0 fun t40 =>
K.extK t38 1 fun t41 =>
K.eqK (K.binV ctx .eql 24 true t35 .nilPtr) t35 .nilPtr fun t42 =>
K.letK (fun (t43 : AV) (h44 : H) => K.letK (fun (t46 : AV) (h47 : H) => K.pickK t42 (.bool true) t46 fun t49 =>
K.letK (fun (t50 : AV) (h51 : H) => K.letK (fun (t53 : AV) (h54 : H) => K.pickK t49 (.bool true) t53 fun t56 =>
K.letK (fun (t57 : AV) (h58 : H) => K.letK (fun (t60 : AV) (h61 : H) => K.pickK t56 (.bool true) t60 fun t63 =>
K.letK (fun (t64 : AV) (h65 : H) => K.letK (fun (t67 : AV) (h68 : H) => K.letK (fun (t70 : AV) (h71 : H) => K.pickK t63 (.bool true) t70 fun t73 =>
K.letK (fun (t74 : AV) (h75 : H) => K.letK (fun (t77 : AV) (h78 : H) => K.letK (fun (t80 : AV) (h81 : H) => K.pickK t73 (.bool true) t80 fun t83 =>
K.letK (fun (t84 : AV) (h85 : H) => K.letK (fun (t87 : AV) (h88 : H) => K.letK (fun (t90 : AV) (h91 : H) => K.letK (fun (t93 : AV) (h94 : H) => K.letK (fun (t96 : AV) (h97 : H) => K.letK (fun (t99 : AV) (h100 : H) => K.letK (fun (t102 : AV) (h103 : H) => K.pickK t83 (.bool true) t102 fun t105 =>
K.iteV t105 (
K.unmarkK [] h103 fun h106 => .ok (.bool false) h106) (
K.letK (fun (l107 : List AV) (m108 : List Nat) (h109 : H) => K.uncons l107 fun t111 l112 => K.uncons l112 fun t113 l114 => K.unnil l114 (
K.callFK run 4 [t113] h109 fun t115 h116 =>
K.extK t115 0 fun t117 =>
K.extK t115 1 fun t118 =>
K.eqK (K.binV ctx .eql 24 true t117 .nilPtr) t117 .nilPtr fun t119 =>
K.letK (fun (t120 : AV) (h121 : H) => K.letK (fun (t123 : AV) (h124 : H) => K.pickK t119 (.bool true) t123 fun t126 =>
K.letK (fun (t127 : AV) (h128 : H) => K.letK (fun (t130 : AV) (h131 : H) => K.letK (fun (t133 : AV) (h134 : H) => K.pickK t126 (.bool true) t133 fun t136 =>
K.letK (fun (t137 : AV) (h138 : H) => K.letK (fun (t140 : AV) (h141 : H) => K.letK (fun (t143 : AV) (h144 : H) => K.pickK t136 (.bool true) t143 fun t146 =>
K.letK (fun (t147 : AV) (h148 : H) => K.guK false t146 (K.ldsK ctx 23 3 t111 h148 fun t150 =>
K.letK (fun (t151 : AV) (h152 : H) => K.letK (fun (t154 : AV) (h155 : H) => K.pickK t146 (.bool true) t154 fun t157 =>
K.iteV t157 (
K.unmarkK m108 h155 fun h158 => .ok (.bool false) h158) (
K.allocK (K.zN ctx 70) (K.zT ctx 70) h155 fun t159 h160 =>
K.letK (fun (l161 : List AV) (m162 : List Nat) (h163 : H) => K.uncons l161 fun t165 l166 => K.uncons l166 fun t167 l168 => K.uncons l168 fun t169 l170 => K.uncons l170 fun t171 l172 => K.unnil l172 (
K.ldsK ctx 23 3 t165 h163 fun t173 =>
K.callFK run 30 [t173, (.int .i64 (.ofNat 1))] h163 fun t174 h175 =>
K.callFK run 32 [t167, t174] h175 fun t176 h177 =>
K.extK t176 0 fun t178 =>
K.extK t176 1 fun t179 =>
K.eqK (K.binV ctx .eql 57 true t178 (.int .u64 (.ofNat 7))) t178 (.int .u64 (.ofNat 7)) fun t180 =>
K.letK (fun (t181 : AV) (h182 : H) => K.letK (fun (t184 : AV) (h185 : H) => K.letK (fun (t187 : AV) (h188 : H) => K.pickK t180 t187 (.bool false) fun t190 =>
K.letK (fun (t191 : AV) (h192 : H) => K.letK (fun (t194 : AV) (h195 : H) => K.letK (fun (t197 : AV) (h198 : H) => K.pickK t190 t197 (.bool false) fun t200 =>
K.letK (fun (t201 : AV) (h202 : H) => K.letK (fun (t204 : AV) (h205 : H) => K.letK (fun (t207 : AV) (h208 : H) => K.pickK t200 t207 (.bool false) fun t210 =>
K.unmarkK m162 h208 fun h211 => .ok t210 h211) fun j209 =>
K.guK true t200 (K.eqK (K.binV ctx .eql 3 true t204 (.int .i64 (.ofNat 0))) t204 (.int .i64 (.ofNat 0)) fun t212 =>
j209 t212 h205) (j209 (.tup []) h205)) fun j206 =>
K.guK true t200 (K.callFK run 33 [t201] h202 fun t213 h214 =>
j206 t213 h214) (j206 (.tup []) h202)) fun j203 =>
K.guK true t200 (j203 t167 h198) (j203 (.tup []) h198)) fun j199 =>
K.guK true t190 (K.eqK (K.binV ctx .eql 3 true t194 (.int .i64 (.ofNat 0))) t194 (.int .i64 (.ofNat 0)) fun t215 =>
j199 t215 h195) (j199 (.tup []) h195)) fun j196 =>
K.guK true t190 (K.callFK run 8 [t191] h192 fun t216 h217 =>
j196 t216 h217) (j196 (.tup []) h192)) fun j193 =>
K.guK true t190 (j193 t169 h188) (j193 (.tup []) h188)) fun j189 =>
K.guK true t180 (K.eqK (K.binV ctx .eql 70 false t181 t184) t181 t184 fun t218 =>
j189 t218 h185) (j189 (.tup []) h185)) fun j186 =>
K.guK true t180 (K.bldAK ctx 70 1 [(4, (.int .i64 (.ofNat 1))), (5, (.int .i64 (.ofNat 2))), (6, (.int .i64 (.ofNat 3)))] fun t219 =>
j186 t219 h182) (j186 (.tup []) h182)) fun j183 =>
K.guK true t180 (K.ldsK ctx 70 8 t171 h177 fun t220 =>
j183 t220 h177) (j183 (.tup []) h177))) fun j164 =>
K.loopV (nat_lit 1000000) (fun s224 l221 m222 h223 => K.uncons l221 fun t225 l226 => K.uncons l226 fun t227 l228 => K.uncons l228 fun t229 l230 => K.uncons l230 fun t231 l232 => K.uncons l232 fun t233 l234 => K.unnil l234 (
K.ltK (K.binV ctx .lss 3 true t233 (.int .i64 (.ofNat 6))) t233 (.int .i64 (.ofNat 6)) fun t235 =>
K.iteV t235 (
K.callFK run 5 [t229] h223 fun t236 h237 =>
K.extK t236 0 fun t238 =>
K.extK t236 1 fun t239 =>
K.neK (K.binV ctx .neq 25 true t239 (.int .i64 (.ofNat 0))) t239 (.int .i64 (.ofNat 0)) fun t240 =>
K.letK (fun (t241 : AV) (h242 : H) => K.letK (fun (t244 : AV) (h245 : H) => K.pickK t240 (.bool true) t244 fun t247 =>
K.iteV t247 (
K.unmarkK m222 h245 fun h248 => .ok (.bool false) h248) (
K.idxAK 8 1 t231 t238 fun t249 =>
K.ldK ctx 3 t249 h245 fun t250 =>
K.addK (K.binV ctx .add 3 true t250 (.int .i64 (.ofNat 1))) t250 (.int .i64 (.ofNat 1)) fun t251 =>
K.idxAK 8 1 t231 t238 fun t252 =>
K.stK t252 t251 h245 fun h253 =>
K.addK (K.binV ctx .add 3 true t233 (.int .i64 (.ofNat 1))) t233 (.int .i64 (.ofNat 1)) fun t254 =>
s224 [t225, t227, t229, t231, t254] m222 h253)) fun j246 =>
K.guK false t240 (K.gtK (K.binV ctx .gtr 28 true t241 (.int .u8 (.ofNat 6))) t241 (.int .u8 (.ofNat 6)) fun t255 =>
j246 t255 h242) (j246 (.tup []) h242)) fun j243 =>
K.guK false t240 (j243 t238 h237) (j243 (.tup []) h237)) (
j164 [t225, t227, t229, t231] m222 h223))) [t111, t113, t117, t159, (.int .i64 (.ofNat 0))] m108 h160)) fun j156 =>
K.guK false t146 (K.neK (K.binV ctx .neq 23 false t151 t150) t151 t150 fun t256 =>
j156 t256 h152) (j156 (.tup []) h152)) fun j153 =>
K.guK false t146 (K.callFK run 10 [t147] h148 fun t257 h258 =>
K.ldsK ctx 23 3 t111 h258 fun t259 =>
K.req (AV.same t150 t259) (
j153 t257 h258)) (j153 (.tup []) h148)) (K.letK (fun (t260 : AV) (h261 : H) => K.letK (fun (t263 : AV) (h264 : H) => K.pickK t146 (.bool true) t263 fun t266 =>
K.iteV t266 (
K.unmarkK m108 h264 fun h267 => .ok (.bool false) h267) (
K.allocK (K.zN ctx 70) (K.zT ctx 70) h264 fun t268 h269 =>
K.letK (fun (l270 : List AV) (m271 : List Nat) (h272 : H) => K.uncons l270 fun t274 l275 => K.uncons l275 fun t276 l277 => K.uncons l277 fun t278 l279 => K.uncons l279 fun t280 l281 => K.unnil l281 (
K.ldsK ctx 23 3 t274 h272 fun t282 =>
K.callFK run 30 [t282, (.int .i64 (.ofNat 1))] h272 fun t283 h284 =>
K.callFK run 32 [t276, t283] h284 fun t285 h286 =>
K.extK t285 0 fun t287 =>
K.extK t285 1 fun t288 =>
K.eqK (K.binV ctx .eql 57 true t287 (.int .u64 (.ofNat 7))) t287 (.int .u64 (.ofNat 7)) fun t289 =>
K.letK (fun (t290 : AV) (h291 : H) => K.letK (fun (t293 : AV) (h294 : H) => K.letK (fun (t296 : AV) (h297 : H) => K.pickK t289 t296 (.bool false) fun t299 =>
K.letK (fun (t300 : AV) (h301 : H) => K.letK (fun (t303 : AV) (h304 : H) => K.letK (fun (t306 : AV) (h307 : H) => K.pickK t299 t306 (.bool false) fun t309 =>
K.letK (fun (t310 : AV) (h311 : H) => K.letK (fun (t313 : AV) (h314 : H) => K.letK (fun (t316 : AV) (h317 : H) => K.pickK t309 t316 (.bool false) fun t319 =>
K.unmarkK m271 h317 fun h320 => .ok t319 h320) fun j318 =>
K.guK true t309 (K.eqK (K.binV ctx .eql 3 true t313 (.int .i64 (.ofNat 0))) t313 (.int .i64 (.ofNat 0)) fun t321 =>
j318 t321 h314) (j318 (.tup []) h314)) fun j315 =>
K.guK true t309 (K.callFK run 33 [t310] h311 fun t322 h323 =>
j315 t322 h323) (j315 (.tup []) h311)) fun j312 =>
K.guK true t309 (j312 t276 h307) (j312 (.tup []) h307)) fun j308 =>
K.guK true t299 (K.eqK (K.binV ctx .eql 3 true t303 (.int .i64 (.ofNat 0))) t303 (.int .i64 (.ofNat 0)) fun t324 =>
j308 t324 h304) (j308 (.tup []) h304)) fun j305 =>
K.guK true t299 (K.callFK run 8 [t300] h301 fun t325 h326 =>
j305 t325 h326) (j305 (.tup []) h301)) fun j302 =>
K.guK true t299 (j302 t278 h297) (j302 (.tup []) h297)) fun j298 =>
K.guK true t289 (K.eqK (K.binV ctx .eql 70 false t290 t293) t290 t293 fun t327 =>
j298 t327 h294) (j298 (.tup []) h294)) fun j295 =>
K.guK true t289 (K.bldAK ctx 70 1 [(4, (.int .i64 (.ofNat 1))), (5, (.int .i64 (.ofNat 2))), (6, (.int .i64 (.ofNat 3)))] fun t328 =>
j295 t328 h291) (j295 (.tup []) h291)) fun j292 =>
K.guK true t289 (K.ldsK ctx 70 8 t280 h286 fun t329 =>
j292 t329 h286) (j292 (.tup []) h286))) fun j273 =>
K.loopV (nat_lit 1000000) (fun s333 l330 m331 h332 => K.uncons l330 fun t334 l335 => K.uncons l335 fun t336 l337 => K.uncons l337 fun t338 l339 => K.uncons l339 fun t340 l341 => K.uncons l341 fun t342 l343 => K.unnil l343 (
K.ltK (K.binV ctx .lss 3 true t342 (.int .i64 (.ofNat 6))) t342 (.int .i64 (.ofNat 6)) fun t344 =>
K.iteV t344 (
K.callFK run 5 [t338] h332 fun t345 h346 =>
K.extK t345 0 fun t347 =>
K.extK t345 1 fun t348 =>
K.neK (K.binV ctx .neq 25 true t348 (.int .i64 (.ofNat 0))) t348 (.int .i64 (.ofNat 0)) fun t349 =>
K.letK (fun (t350 : AV) (h351 : H) => K.letK (fun (t353 : AV) (h354 : H) => K.pickK t349 (.bool true) t353 fun t356 =>
K.iteV t356 (
K.unmarkK m331 h354 fun h357 => .ok (.bool false) h357) (
K.idxAK 8 1 t340 t347 fun t358 =>
K.ldK ctx 3 t358 h354 fun t359 =>
K.addK (K.binV ctx .add 3 true t359 (.int .i64 (.ofNat 1))) t359 (.int .i64 (.ofNat 1)) fun t360 =>
K.idxAK 8 1 t340 t347 fun t361 =>
K.stK t361 t360 h354 fun h362 =>
K.addK (K.binV ctx .add 3 true t342 (.int .i64 (.ofNat 1))) t342 (.int .i64 (.ofNat 1)) fun t363 =>
s333 [t334, t336, t338, t340, t363] m331 h362)) fun j355 =>
K.guK false t349 (K.gtK (K.binV ctx .gtr 28 true t350 (.int .u8 (.ofNat 6))) t350 (.int .u8 (.ofNat 6)) fun t364 =>
j355 t364 h351) (j355 (.tup []) h351)) fun j352 =>
K.guK false t349 (j352 t347 h346) (j352 (.tup []) h346)) (
j273 [t334, t336, t338, t340] m331 h332))) [t111, t113, t117, t268, (.int .i64 (.ofNat 0))] m108 h269)) fun j265 =>
K.guK false t146 (K.neK (K.binV ctx .neq 23 false t260 (.tup [])) t260 (.tup []) fun t365 =>
j265 t365 h261) (j265 (.tup []) h261)) fun j262 =>
K.guK false t146 (K.callFK run 10 [t147] h148 fun t366 h367 =>
j262 t366 h367) (j262 (.tup []) h148))) fun j149 =>
K.guK false t146 (j149 t117 h144) (j149 (.tup []) h144)) fun j145 =>
K.guK false t136 (K.neK (K.binV ctx .neq 3 true t140 (.int .i64 (.ofNat 0))) t140 (.int .i64 (.ofNat 0)) fun t368 =>
j145 t368 h141) (j145 (.tup []) h141)) fun j142 =>
K.guK false t136 (K.callFK run 9 [t137] h138 fun t369 h370 =>
j142 t369 h370) (j142 (.tup []) h138)) fun j139 =>
K.guK false t136 (j139 t117 h134) (j139 (.tup []) h134)) fun j135 =>
K.guK false t126 (K.neK (K.binV ctx .neq 3 true t130 (.int .i64 (.ofNat 6))) t130 (.int .i64 (.ofNat 6)) fun t371 =>
j135 t371 h131) (j135 (.tup []) h131)) fun j132 =>
K.guK false t126 (K.callFK run 8 [t127] h128 fun t372 h373 =>
j132 t372 h373) (j132 (.tup []) h128)) fun j129 =>
K.guK false t126 (j129 t117 h124) (j129 (.tup []) h124)) fun j125 =>
K.guK false t119 (K.neK (K.binV ctx .neq 25 true t120 (.int .i64 (.ofNat 0))) t120 (.int .i64 (.ofNat 0)) fun t374 =>
j125 t374 h121) (j125 (.tup []) h121)) fun j122 =>
K.guK false t119 (j122 t118 h116) (j122 (.tup []) h116))) fun j110 =>
K.loopV (nat_lit 1000000) (fun s378 l375 m376 h377 => K.uncons l375 fun t379 l380 => K.uncons l380 fun t381 l382 => K.uncons l382 fun t383 l384 => K.uncons l384 fun t385 l386 => K.unnil l386 (
K.ltK (K.binV ctx .lss 3 true t385 (.int .i64 (.ofNat 20))) t385 (.int .i64 (.ofNat 20)) fun t387 =>
K.letK (fun (t388 : AV) (h389 : H) => K.letK (fun (t391 : AV) (h392 : H) => K.letK (fun (t394 : AV) (h395 : H) => K.pickK t387 t394 (.bool false) fun t397 =>
K.iteV t397 (
K.callFK run 16 [t383] h395 fun t398 h399 =>
K.addK (K.binV ctx .add 3 true t385 (.int .i64 (.ofNat 1))) t385 (.int .i64 (.ofNat 1)) fun t400 =>
s378 [t379, t381, t383, t400] m376 h399) (
j110 [t379, t381] m376 h395)) fun j396 =>
K.guK true t387 (K.ltK (K.binV ctx .lss 28 true t391 (.int .u8 (.ofNat 4))) t391 (.int .u8 (.ofNat 4)) fun t401 =>
j396 t401 h392) (j396 (.tup []) h392)) fun j393 =>
K.guK true t387 (K.callFK run 31 [t388] h389 fun t402 h403 =>
j393 t402 h403) (j393 (.tup []) h389)) fun j390 =>
K.guK true t387 (j390 t383 h377) (j390 (.tup []) h377))) [t1, t9, t40, (.int .i64 (.ofNat 0))] [] h103)) fun j104 =>
K.guK false t83 (K.neK (K.binV ctx .neq 25 true t99 (.int .i64 (.ofNat 0))) t99 (.int .i64 (.ofNat 0)) fun t404 =>
j104 t404 h100) (j104 (.tup []) h100)) fun j101 =>
K.guK false t83 (K.callFK run 29 [t84, t96] h97 fun t405 h406 =>
j101 t405 h406) (j101 (.tup []) h97)) fun j98 =>
K.guK false t83 (K.bslK ctx 67 2 1 [(0, t93)] h94 fun t407 h408 =>
j98 t407 h408) (j98 (.tup []) h94)) fun j95 =>
K.guK false t83 (K.bldSK ctx 67 [(0, t90), (1, (.int .u64 (.ofNat 7)))] fun t409 =>
j95 t409 h91) (j95 (.tup []) h91)) fun j92 =>
K.guK false t83 (K.callFK run 30 [t87, (.int .i64 (.ofNat 1))] h88 fun t410 h411 =>
j92 t410 h411) (j92 (.tup []) h88)) fun j89 =>
K.guK false t83 (K.ldsK ctx 23 3 t1 h85 fun t412 =>
j89 t412 h85) (j89 (.tup []) h85)) fun j86 =>
K.guK false t83 (j86 t40 h81) (j86 (.tup []) h81)) fun j82 =>
K.guK false t73 (K.neK (K.binV ctx .neq 3 true t77 (.int .i64 (.ofNat 1))) t77 (.int .i64 (.ofNat 1)) fun t413 =>
j82 t413 h78) (j82 (.tup []) h78)) fun j79 =>
K.guK false t73 (K.callFK run 9 [t74] h75 fun t414 h415 =>
j79 t414 h415) (j79 (.tup []) h75)) fun j76 =>
K.guK false t73 (j76 t35 h71) (j76 (.tup []) h71)) fun j72 =>
K.guK false t63 (K.neK (K.binV ctx .neq 3 true t67 (.int .i64 (.ofNat 0))) t67 (.int .i64 (.ofNat 0)) fun t416 =>
j72 t416 h68) (j72 (.tup []) h68)) fun j69 =>
K.guK false t63 (K.callFK run 8 [t64] h65 fun t417 h418 =>
j69 t417 h418) (j69 (.tup []) h65)) fun j66 =>
K.guK false t63 (j66 t35 h61) (j66 (.tup []) h61)) fun j62 =>
K.guK false t56 (K.neK (K.binV ctx .neq 25 true t57 (.int .i64 (.ofNat 0))) t57 (.int .i64 (.ofNat 0)) fun t419 =>
j62 t419 h58) (j62 (.tup []) h58)) fun j59 =>
K.guK false t56 (j59 t41 h54) (j59 (.tup []) h54)) fun j55 =>
K.guK false t49 (K.neK (K.binV ctx .neq 25 true t50 (.int .i64 (.ofNat 0))) t50 (.int .i64 (.ofNat 0)) fun t420 =>
j55 t420 h51) (j55 (.tup []) h51)) fun j52 =>
K.guK false t49 (j52 t36 h47) (j52 (.tup []) h47)) fun j48 =>
K.guK false t42 (K.eqK (K.binV ctx .eql 44 true t43 .nilPtr) t43 .nilPtr fun t421 =>
j48 t421 h44) (j48 (.tup []) h44)) fun j45 =>
K.guK false t42 (j45 t40 h39) (j45 (.tup []) h39))) fun j30 =>
K.guK false t18 (K.neK (K.binV ctx .neq 25 true t25 (.int .i64 (.ofNat 0))) t25 (.int .i64 (.ofNat 0)) fun t422 =>
j30 t422 h26) (j30 (.tup []) h26)) fun j27 =>
K.guK false t18 (K.callFK run 11 [t19, t22] h23 fun t423 h424 =>
j27 t423 h424) (j27 (.tup []) h23)) fun j24 =>
K.guK false t18 (K.ldsK ctx 23 3 t1 h20 fun t425 =>
j24 t425 h20) (j24 (.tup []) h20)) fun j21 =>
K.guK false t18 (j21 t9 h16) (j21 (.tup []) h16)) fun j17 =>
K.guK false t11 (K.neK (K.binV ctx .neq 25 true t12 (.int .i64 (.ofNat 0))) t12 (.int .i64 (.ofNat 0)) fun t426 =>
j17 t426 h13) (j17 (.tup []) h13)) fun j14 =>
K.guK false t11 (j14 t10 h8) (j14 (.tup []) h8))
noncomputable def r13 : K.KRun → List AV → H → K.KR := fun run args h => K.uncons args fun t0 l1 => K.unnil l1 (
K.allocK (K.zN ctx 23) (K.zT ctx 23) h fun t2 h3 =>
K.lenVK t0 fun t4 =>
K.ltK (K.binV ctx .lss 3 true t4 (.int .i64 (.ofNat 8))) t4 (.int .i64 (.ofNat 8)) fun t5 =>
K.letK (fun (t6 : AV) (h7 : H) => K.letK (fun (t9 : AV) (h10 : H) => K.letK (fun (t12 : AV) (h13 : H) => K.letK (fun (t15 : AV) (h16 : H) => K.pickK t5 (.bool true) t15 fun t18 =>
K.letK (fun (t19 : AV) (h20 : H) => K.letK (fun (t22 : AV) (h23 : H) => K.letK (fun (t25 : AV) (h26 : H) => K.letK (fun (t28 : AV) (h29 : H) => K.letK (fun (t31 : AV) (h32 : H) => K.letK (fun (t34 : AV) (h35 : H) => K.letK (fun (t37 : AV) (h38 : H) => K.letK (fun (t40 : AV) (h41 : H) => K.letK (fun (t43 : AV) (h44 : H) => K.letK (fun (t46 : AV) (h47 : H) => K.letK (fun (t49 : AV) (h50 : H) => K.pickK t18 (.bool true) t49 fun t52 =>
K.iteV t52 (
K.bldSK ctx 23 [] fun t53 =>
K.stsK 3 t2 t53 h50 fun h54 =>
K.unmarkK [] h54 fun h55 => K.asPtr t2 fun n56 n57 => K.loads h55 n56 n57 3 fun t58 => .ok (.tup [(.agg t58), (.bool false)]) h55) (
K.idxSK 1 t0 (.int .i64 (.ofNat 1)) fun t59 =>
K.ldK ctx 57 t59 h50 fun t60 =>
K.rK (convA ctx 57 3 t60 h50) fun t61 h62 =>
K.idxSK 1 t0 (.int .i64 (.ofNat 2)) fun t63 =>
K.ldK ctx 57 t63 h62 fun t64 =>
K.rK (convA ctx 57 3 t64 h62) fun t65 h66 =>
K.idxSK 1 t0 (.int .i64 (.ofNat 3)) fun t67 =>
K.ldK ctx 57 t67 h66 fun t68 =>
K.rK (convA ctx 57 3 t68 h66) fun t69 h70 =>
K.bldSK ctx 23 [(0, t61), (1, t65), (2, t69)] fun t71 =>
K.stsK 3 t2 t71 h70 fun h72 =>
K.ldsK ctx 23 3 t2 h72 fun t73 =>
K.callFK run 19 [t73] h72 fun t74 h75 =>
K.notK t74 fun t76 =>
K.letK (fun (t77 : AV) (h78 : H) => K.letK (fun (t80 : AV) (h81 : H) => K.letK (fun (t83 : AV) (h84 : H) => K.letK (fun (t86 : AV) (h87 : H) => K.letK (fun (t89 : AV) (h90 : H) => K.pickK t76 (.bool true) t89 fun t92 =>
K.iteV t92 (
K.bldSK ctx 23 [] fun t93 =>
K.stsK 3 t2 t93 h90 fun h94 =>
K.unmarkK [] h94 fun h95 => K.asPtr t2 fun n96 n97 => K.loads h95 n96 n97 3 fun t98 => .ok (.tup [(.agg t98), (.bool false)]) h95) (
K.ldsK ctx 23 3 t2 h90 fun t99 =>
K.stsK 3 t2 t99 h90 fun h100 =>
K.unmarkK [] h100 fun h101 => K.asPtr t2 fun n102 n103 => K.loads h101 n102 n103 3 fun t104 => .ok (.tup [(.agg t104), (.bool true)]) h101)) fun j91 =>
K.guK false t76 (K.ltK (K.binV ctx .lss 3 false t80 t86) t80 t86 fun t105 =>
j91 t105 h87) (j91 (.tup []) h87)) fun j88 =>
K.guK false t76 (K.callFK run 21 [t83] h84 fun t106 h107 =>
j88 t106 h107) (j88 (.tup []) h84)) fun j85 =>
K.guK false t76 (K.ldsK ctx 23 3 t2 h81 fun t108 =>
j85 t108 h81) (j85 (.tup []) h81)) fun j82 =>
K.guK false t76 (K.lenVK t77 fun t109 =>
j82 t109 h78) (j82 (.tup []) h78)) fun j79 =>
K.guK false t76 (j79 t0 h75) (j79 (.tup []) h75))) fun j51 =>
K.guK false t18 (K.gtK (K.binV ctx .gtr 57 true t46 (.int .u64 (.ofNat 512))) t46 (.int .u64 (.ofNat 512)) fun t110 =>
j51 t110 h47) (j51 (.tup []) h47)) fun j48 =>
K.guK false t18 (K.slowK ctx run (K.opAt Go.Proofs.Try.f13 1 19) [16, 19, 22] [t25, t34, t43] h44 fun t111 h112 =>
j48 t111 h112) (j48 (.tup []) h44)) fun j45 =>
K.guK false t18 (K.ldK ctx 57 t40 h41 fun t113 =>
j45 t113 h41) (j45 (.tup []) h41)) fun j42 =>
K.guK false t18 (K.idxSK 1 t37 (.int .i64 (.ofNat 3)) fun t114 =>
j42 t114 h38) (j42 (.tup []) h38)) fun j39 =>
K.guK false t18 (j39 t0 h35) (j39 (.tup []) h35)) fun j36 =>
K.guK false t18 (K.ldK ctx 57 t31 h32 fun t115 =>
j36 t115 h32) (j36 (.tup []) h32)) fun j33 =>
K.guK false t18 (K.idxSK 1 t28 (.int .i64 (.ofNat 2)) fun t116 =>
j33 t116 h29) (j33 (.tup []) h29)) fun j30 =>
K.guK false t18 (j30 t0 h26) (j30 (.tup []) h26)) fun j27 =>
K.guK false t18 (K.ldK ctx 57 t22 h23 fun t117 =>
j27 t117 h23) (j27 (.tup []) h23)) fun j24 =>
K.guK false t18 (K.idxSK 1 t19 (.int .i64 (.ofNat 1)) fun t118 =>
j24 t118 h20) (j24 (.tup []) h20)) fun j21 =>
K.guK false t18 (j21 t0 h16) (j21 (.tup []) h16)) fun j17 =>
K.guK false t5 (K.neK (K.binV ctx .neq 57 true t12 (.int .u64 (.ofNat 32762617960297063))) t12 (.int .u64 (.ofNat 32762617960297063)) fun t119 =>
j17 t119 h13) (j17 (.tup []) h13)) fun j14 =>
K.guK false t5 (K.ldK ctx 57 t9 h10 fun t120 =>
j14 t120 h10) (j14 (.tup []) h10)) fun j11 =>
K.guK false t5 (K.idxSK 1 t6 (.int .i64 (.ofNat 0)) fun t121 =>
j11 t121 h7) (j11 (.tup []) h7)) fun j8 =>
K.guK false t5 (j8 t0 h3) (j8 (.tup []) h3))
noncomputable def r14 : K.KRun → List AV → H → K.KR := fun run args h => K.uncons args fun t0 l1 => K.unnil l1 (
K.callFK run 34 [t0, (.func (.func 35) [] [])] h fun t2 h3 =>
K.unmarkK [] h3 fun h4 => .ok t2 h4)
noncomputable def r15 : K.KRun → List AV → H → K.KR := fun run args h => K.uncons args fun t0 l1 => K.uncons l1 fun t2 l3 => K.unnil l3 (
K.letK (fun (l4 : List AV) (m5 : List Nat) (h6 : H) => K.uncons l4 fun t8 l9 => K.unnil l9 (
K.nilK t8 fun t10 =>
K.fldK 5 t10 fun t11 =>
K.stK t11 .nilPtr h6 fun h12 =>
K.unmarkK m5 h12 fun h13 => .ok (.tup []) h13)) fun j7 =>
K.nilK t0 fun t14 =>
K.fldK 4 t14 fun t15 =>
K.stK t15 t2 h fun h16 =>
K.loopV (nat_lit 1000000) (fun s20 l17 m18 h19 => K.uncons l17 fun t21 l22 => K.unnil l22 (
K.nilK t21 fun t23 =>
K.fldK 4 t23 fun t24 =>
K.ldK ctx 3 t24 h19 fun t25 =>
K.nilK t21 fun t26 =>
K.fldK 1 t26 fun t27 =>
K.fldK 0 t27 fun t28 =>
K.ldK ctx 3 t28 h19 fun t29 =>
K.ltK (K.binV ctx .lss 3 false t25 t29) t25 t29 fun t30 =>
K.iteV t30 (
K.letK (fun (l31 : List AV) (m32 : List Nat) (h33 : H) => K.uncons l31 fun t35 l36 => K.unnil l36 (
K.nilK t35 fun t37 =>
K.fldK 4 t37 fun t38 =>
K.ldK ctx 3 t38 h33 fun t39 =>
K.addK (K.binV ctx .add 3 true t39 (.int .i64 (.ofNat 1))) t39 (.int .i64 (.ofNat 1)) fun t40 =>
K.nilK t35 fun t41 =>
K.fldK 4 t41 fun t42 =>
K.stK t42 t40 h33 fun h43 =>
s20 [t35] m32 h43)) fun j34 =>
K.nilK t21 fun t44 =>
K.fldK 0 t44 fun t45 =>
K.ldK ctx 31 t45 h19 fun t46 =>
K.nilK t21 fun t47 =>
K.fldK 1 t47 fun t48 =>
K.ldsK ctx 23 3 t48 h19 fun t49 =>
K.nilK t21 fun t50 =>
K.fldK 4 t50 fun t51 =>
K.ldK ctx 3 t51 h19 fun t52 =>
K.callFK run 28 [t46, t49, t52] h19 fun t53 h54 =>
K.extK t53 0 fun t55 =>
K.extK t53 1 fun t56 =>
K.neK (K.binV ctx .neq 25 true t56 (.int .i64 (.ofNat 0))) t56 (.int .i64 (.ofNat 0)) fun t57 =>
K.iteV t57 (
j34 [t21] m18 h54) (
K.callFK run 36 [t55] h54 fun t58 h59 =>
K.extK t58 0 fun t60 =>
K.extK t58 1 fun t61 =>
K.notK t60 fun t62 =>
K.letK (fun (t63 : AV) (h64 : H) => K.letK (fun (t66 : AV) (h67 : H) => K.pickK t62 (.bool true) t66 fun t69 =>
K.iteV t69 (
j34 [t21] m18 h67) (
K.nilK t21 fun t70 =>
K.fldK 5 t70 fun t71 =>
K.stK t71 t55 h67 fun h72 =>
K.unmarkK m18 h72 fun h73 => .ok (.tup []) h73)) fun j68 =>
K.guK false t62 (K.neK (K.binV ctx .neq 25 true t63 (.int .i64 (.ofNat 0))) t63 (.int .i64 (.ofNat 0)) fun t74 =>
j68 t74 h64) (j68 (.tup []) h64)) fun j65 =>
K.guK false t62 (j65 t61 h59) (j65 (.tup []) h59))) (
j7 [t21] m18 h19))) [t0] [] h16)
noncomputable def r16 : K.KRun → List AV → H → K.KR := fun run args h => K.uncons args fun t0 l1 => K.unnil l1 (
K.eqK (K.binV ctx .eql 44 true t0 .nilPtr) t0 .nilPtr fun t2 =>
K.iteV t2 (
K.unmarkK [] h fun h3 => .ok (.tup [(.int .u8 (.ofNat 0)), (.int .i64 (.ofNat 2))]) h3) (
K.nilK t0 fun t4 =>
K.fldK 5 t4 fun t5 =>
K.ldK ctx 81 t5 h fun t6 =>
K.lenVK t6 fun t7 =>
K.eqK (K.binV ctx .eql 3 true t7 (.int .i64 (.ofNat 0))) t7 (.int .i64 (.ofNat 0)) fun t8 =>
K.iteV t8 (
K.unmarkK [] h fun h9 => .ok (.tup [(.int .u8 (.ofNat 0)), (.int .i64 (.ofNat 3))]) h9) (
K.nilK t0 fun t10 =>
K.fldK 5 t10 fun t11 =>
K.ldK ctx 81 t11 h fun t12 =>
K.idxSK 2 t12 (.int .i64 (.ofNat 0)) fun t13 =>
K.ldsK ctx 85 2 t13 h fun t14 =>
K.allocK (K.zN ctx 85) (K.zT ctx 85) h fun t15 h16 =>
K.stsK 2 t15 t14 h16 fun h17 =>
K.nilK t0 fun t18 =>
K.fldK 5 t18 fun t19 =>
K.ldK ctx 81 t19 h17 fun t20 =>
K.slcK ctx 81 t20 (some (.int .i64 (.ofNat 1))) none none h17 fun t21 =>
K.nilK t0 fun t22 =>
K.fldK 5 t22 fun t23 =>
K.stK t23 t21 h17 fun h24 =>
K.fldK 0 t15 fun t25 =>
K.ldK ctx 28 t25 h24 fun t26 =>
K.fldK 1 t15 fun t27 =>
K.ldK ctx 61 t27 h24 fun t28 =>
K.callVK run t28 [] h24 fun t29 h30 =>
K.ldK ctx 28 t25 h30 fun t31 =>
K.req (AV.same t26 t31) (
K.unmarkK [] h30 fun h32 => .ok (.tup [t26, t29]) h32))))
noncomputable def r17 : K.KRun → List AV → H → K.KR := fun run args h => K.uncons args fun t0 l1 => K.unnil l1 (
K.eqK (K.binV ctx .eql 44 true t0 .nilPtr) t0 .nilPtr fun t2 =>
K.iteV t2 (
K.unmarkK [] h fun h3 => .ok (.int .i64 (.ofNat 0)) h3) (
K.nilK t0 fun t4 =>
K.fldK 5 t4 fun t5 =>
K.ldK ctx 81 t5 h fun t6 =>
K.lenVK t6 fun t7 =>
K.unmarkK [] h fun h8 => .ok t7 h8))
noncomputable def r18 : K.KRun → List AV → H → K.KR := fun run args h => K.uncons args fun t0 l1 => K.unnil l1 (
K.allocK (K.zN ctx 23) (K.zT ctx 23) h fun t2 h3 =>
K.oK (K.binV ctx .rem 5 true t0 (.int .u8 (.ofNat 39))) fun t4 =>
K.addK (K.binV ctx .add 5 true (.int .u8 (.ofNat 20)) t4) (.int .u8 (.ofNat 20)) t4 fun t5 =>
K.callFK run 37 [(.int .u8 (.ofNat 9)), t5] h3 fun t6 h7 =>
K.stsK 3 t2 t6 h7 fun h8 =>
K.unmarkK [] h8 fun h9 => K.asPtr t2 fun n10 n11 => K.loads h9 n10 n11 3 fun t12 => .ok (.agg t12) h9)
noncomputable def r19 : K.KRun → List AV → H → K.KR := fun run args h => K.uncons args fun t0 l1 => K.unnil l1 (
K.boxK t0 h fun t2 h3 =>
K.fldK 0 t2 fun t4 =>
K.ldK ctx 3 t4 h3 fun t5 =>
K.callFK run 38 [t5, (.int .i64 (.ofNat 1)), (.int .i64 (.ofNat 4))] h3 fun t6 h7 =>
K.letK (fun (t8 : AV) (h9 : H) => K.letK (fun (t11 : AV) (h12 : H) => K.letK (fun (t14 : AV) (h15 : H) => K.pickK t6 t14 (.bool false) fun t17 =>
K.letK (fun (t18 : AV) (h19 : H) => K.letK (fun (t21 : AV) (h22 : H) => K.letK (fun (t24 : AV) (h25 : H) => K.pickK t17 t24 (.bool false) fun t27 =>
K.unmarkK [] h25 fun h28 => .ok t27 h28) fun j26 =>
K.guK true t17 (K.callFK run 38 [t21, (.int .i64 (.ofNat 2)), (.int .i64 (.ofNat 512))] h22 fun t29 h30 =>
j26 t29 h30) (j26 (.tup []) h22)) fun j23 =>
K.guK true t17 (K.ldK ctx 3 t18 h19 fun t31 =>
j23 t31 h19) (j23 (.tup []) h19)) fun j20 =>
K.guK true t17 (K.fldK 2 t2 fun t32 =>
j20 t32 h15) (j20 (.tup []) h15)) fun j16 =>
K.guK true t6 (K.callFK run 38 [t11, (.int .i64 (.ofNat 2)), (.int .i64 (.ofNat 64))] h12 fun t33 h34 =>
j16 t33 h34) (j16 (.tup []) h12)) fun j13 =>
K.guK true t6 (K.ldK ctx 3 t8 h9 fun t35 =>
j13 t35 h9) (j13 (.tup []) h9)) fun j10 =>
K.guK true t6 (K.fldK 1 t2 fun t36 =>
j10 t36 h7) (j10 (.tup []) h7))
noncomputable def r20 : K.KRun → List AV → H → K.KR := fun run args h => K.uncons args fun t0 l1 => K.unnil l1 (
K.eqK (K.binV ctx .eql 31 true t0 .nilPtr) t0 .nilPtr fun t2 =>
K.iteV t2 (
K.unmarkK [] h fun h3 => .ok (.int .i64 (.ofNat 0)) h3) (
K.nilK t0 fun t4 =>
K.fldK 0 t4 fun t5 =>
K.ldK ctx 48 t5 h fun t6 =>
K.lenVK t6 fun t7 =>
K.unmarkK [] h fun h8 => .ok t7 h8))
noncomputable def r21 : K.KRun → List AV → H → K.KR := fun run args h => K.uncons args fun t0 l1 => K.unnil l1 (
K.boxK t0 h fun t2 h3 =>
K.ldsK ctx 23 3 t2 h3 fun t4 =>
K.callFK run 19 [t4] h3 fun t5 h6 =>
K.notK t5 fun t7 =>
K.iteV t7 (
K.unmarkK [] h6 fun h8 => .ok (.int .i64 (.ofNat 0)) h8) (
K.letK (fun (l9 : List AV) (m10 : List Nat) (h11 : H) => K.uncons l9 fun t13 l14 => K.unnil l14 (
K.unmarkK m10 h11 fun h15 => .ok t13 h15)) fun j12 =>
K.ldsK ctx 23 3 t2 h6 fun t16 =>
K.callFK run 39 [t16] h6 fun t17 h18 =>
K.loopV (nat_lit 1000000) (fun s22 l19 m20 h21 => K.uncons l19 fun t23 l24 => K.uncons l24 fun t25 l26 => K.uncons l26 fun t27 l28 => K.unnil l28 (
K.ltK (K.binV ctx .lss 3 true t27 (.int .i64 (.ofNat 7))) t27 (.int .i64 (.ofNat 7)) fun t29 =>
K.iteV t29 (
K.idxK ctx 89 3 7 t25 t27 fun t30 =>
K.allocK (K.zN ctx 89) (K.zT ctx 89) h21 fun t31 h32 =>
K.stsK 3 t31 t30 h32 fun h33 =>
K.fldK 1 t31 fun t34 =>
K.ldK ctx 3 t34 h33 fun t35 =>
K.fldK 2 t31 fun t36 =>
K.ldK ctx 3 t36 h33 fun t37 =>
K.mulK (K.binV ctx .mul 3 false t35 t37) t35 t37 fun t38 =>
K.addK (K.binV ctx .add 3 false t23 t38) t23 t38 fun t39 =>
K.addK (K.binV ctx .add 3 true t27 (.int .i64 (.ofNat 1))) t27 (.int .i64 (.ofNat 1)) fun t40 =>
s22 [t39, t25, t40] m20 h33) (
j12 [t23] m20 h21))) [(.int .i64 (.ofNat 0)), t17, (.int .i64 (.ofNat 0))] [] h18))
noncomputable def r22 : K.KRun → List AV → H → K.KR := fun run args h => K.uncons args fun t0 l1 => K.unnil l1 (
K.boxK t0 h fun t2 h3 =>
K.ldsK ctx 23 3 t2 h3 fun t4 =>
K.callFK run 19 [t4] h3 fun t5 h6 =>
K.notK t5 fun t7 =>
K.iteV t7 (
K.unmarkK [] h6 fun h8 => .ok .nilSlice h8) (
K.ldsK ctx 23 3 t2 h6 fun t9 =>
K.callFK run 21 [t9] h6 fun t10 h11 =>
K.mslK ctx 57 1 t10 t10 h11 fun t12 h13 =>
K.fldK 0 t2 fun t14 =>
K.ldK ctx 3 t14 h13 fun t15 =>
K.rK (convA ctx 3 57 t15 h13) fun t16 h17 =>
K.fldK 1 t2 fun t18 =>
K.ldK ctx 3 t18 h17 fun t19 =>
K.rK (convA ctx 3 57 t19 h17) fun t20 h21 =>
K.fldK 2 t2 fun t22 =>
K.ldK ctx 3 t22 h21 fun t23 =>
K.rK (convA ctx 3 57 t23 h21) fun t24 h25 =>
K.bslK ctx 57 1 4 [(0, (.int .u64 (.ofNat 32762617960297063))), (1, t16), (2, t20), (3, t24)] h25 fun t26 h27 =>
K.slowK ctx run (K.opAt Go.Proofs.Try.f22 4 11) [10, 20] [t12, t26] h27 fun t28 h29 =>
K.ldsK ctx 23 3 t2 h29 fun t30 =>
K.callFK run 40 [t30] h29 fun t31 h32 =>
K.idxSK 1 t12 t31 fun t33 =>
K.stK t33 (.int .u64 (.ofNat 3)) h32 fun h34 =>
K.ldsK ctx 23 3 t2 h34 fun t35 =>
K.callFK run 41 [t35] h34 fun t36 h37 =>
K.idxSK 1 t12 t36 fun t38 =>
K.stK t38 (.int .u64 (.ofNat 1)) h37 fun h39 =>
K.ldsK ctx 23 3 t2 h39 fun t40 =>
K.callFK run 42 [t40, (.int .i64 (.ofNat 1))] h39 fun t41 h42 =>
K.slcK ctx 42 t12 (some t41) none none h42 fun t43 =>
K.bslK ctx 57 1 2 [(0, (.int .u64 (.ofNat 2))), (1, (.int .u64 (.ofNat 1)))] h42 fun t44 h45 =>
K.slowK ctx run (K.opAt Go.Proofs.Try.f22 7 5) [33, 34] [t43, t44] h45 fun t46 h47 =>
K.unmarkK [] h47 fun h48 => .ok t12 h48))
noncomputable def r23 : K.KRun → List AV → H → K.KR := fun run args h => K.uncons args fun t0 l1 => K.unnil l1 (
K.boxK t0 h fun t2 h3 =>
K.unmarkK [] h3 fun h4 => .ok (.func (.func 43) [] [t2]) h4)
noncomputable def r24 : K.KRun → List AV → H → K.KR := fun run args h => K.uncons args fun t0 l1 => K.uncons l1 fun t2 l3 => K.uncons l3 fun t4 l5 => K.unnil l5 (
K.callFK run 44 [t0, t2] h fun t6 h7 =>
K.extK t6 0 fun t8 =>
K.extK t6 1 fun t9 =>
K.letK (fun (l10 : List AV) (m11 : List Nat) (h12 : H) => K.uncons l10 fun t14 l15 => K.unnil l15 (
K.unmarkK m11 h12 fun h16 => .ok t14 h16)) fun j13 =>
K.eqK (K.binV ctx .eql 25 true t9 (.int .i64 (.ofNat 0))) t9 (.int .i64 (.ofNat 0)) fun t17 =>
K.iteV t17 (
K.nilK t8 fun t18 =>
K.fldK 1 t18 fun t19 =>
K.stK t19 t4 h7 fun h20 =>
K.nilK t8 fun t21 =>
K.fldK 2 t21 fun t22 =>
K.fldK 0 t22 fun t23 =>
K.stK t23 (.bool true) h20 fun h24 =>
K.nilK t8 fun t25 =>
K.fldK 2 t25 fun t26 =>
K.fldK 2 t26 fun t27 =>
K.stK t27 (.bool true) h24 fun h28 =>
j13 [t9] [] h28) (
j13 [t9] [] h7))
noncomputable def r25 : K.KRun → List AV → H → K.KR := fun run args h => K.uncons args fun t0 l1 => K.uncons l1 fun t2 l3 => K.unnil l3 (
K.letK (fun (l4 : List AV) (m5 : List Nat) (h6 : H) => K.unnil l4 (
K.unmarkK m5 h6 fun h8 => .ok (.int .i64 (.ofNat 0)) h8)) fun j7 =>
K.loopV (nat_lit 1000000) (fun s12 l9 m10 h11 => K.uncons l9 fun t13 l14 => K.uncons l14 fun t15 l16 => K.uncons l16 fun t17 l18 => K.unnil l18 (
K.ltK (K.binV ctx .lss 3 false t17 t15) t17 t15 fun t19 =>
K.iteV t19 (
K.callVK run t13 [t17] h11 fun t20 h21 =>
K.neK (K.binV ctx .neq 25 true t20 (.int .i64 (.ofNat 0))) t20 (.int .i64 (.ofNat 0)) fun t22 =>
K.iteV t22 (
K.unmarkK m10 h21 fun h23 => .ok t20 h23) (
K.addK (K.binV ctx .add 3 true t17 (.int .i64 (.ofNat 1))) t17 (.int .i64 (.ofNat 1)) fun t24 =>
s12 [t13, t15, t24] m10 h21)) (
j7 [] m10 h11))) [t2, t0, (.int .i64 (.ofNat 0))] [] h)
noncomputable def r26 : K.KRun → List AV → H → K.KR := fun run args h => K.uncons args fun t0 l1 => K.uncons l1 fun t2 l3 => K.unnil l3 (
K.callFK run 45 [t0, t2, (.func (.func 46) [] [])] h fun t4 h5 =>
K.unmarkK [] h5 fun h6 => .ok t4 h6)
noncomputable def r27 : K.KRun → List AV → H → K.KR := fun run args h => K.uncons args fun t0 l1 => K.unnil l1 (
K.eqK (K.binV ctx .eql 31 true t0 .nilPtr) t0 .nilPtr fun t2 =>
K.iteV t2 (
K.unmarkK [] h fun h3 => .ok (.int .i64 (.ofNat 2)) h3) (
K.letK (fun (l4 : List AV) (m5 : List Nat) (h6 : H) => K.unnil l4 (
K.unmarkK m5 h6 fun h8 => .ok (.int .i64 (.ofNat 0)) h8)) fun j7 =>
K.nilK t0 fun t9 =>
K.fldK 0 t9 fun t10 =>
K.ldK ctx 48 t10 h fun t11 =>
K.callFK run 47 [t11] h fun t12 h13 =>
K.hNew h13 .marks fun r14 h15 => K.hNew h15 (.loop .ready none (K.mkT [11] [t12]) 2 r14) fun n16 h17 =>
K.rngK ctx run t12 n16 h17 (fun h19 => j7 [] (r14 :: []) h19) (fun h20 => K.unmarkK (r14 :: []) h20 fun h23 => .bad) fun i18 h21 => (Bool.rec (motive := fun _ => K.KR) (.bad) (j7 [] (r14 :: []) h21) (Nat.beq i18 0))))
noncomputable def r28 : K.KRun → List AV → H → K.KR := fun run args h => K.uncons args fun t0 l1 => K.uncons l1 fun t2 l3 => K.uncons l3 fun t4 l5 => K.unnil l5 (
K.boxK t2 h fun t6 h7 =>
K.ldsK ctx 23 3 t6 h7 fun t8 =>
K.callFK run 49 [t8, t4] h7 fun t9 h10 =>
K.eqK (K.binV ctx .eql 31 true t0 .nilPtr) t0 .nilPtr fun t11 =>
K.iteV t11 (
K.unmarkK [] h10 fun h12 => .ok (.tup [.nilPtr, (.int .i64 (.ofNat 2))]) h12) (
K.ltK (K.binV ctx .lss 3 true t9 (.int .i64 (.ofNat 0))) t9 (.int .i64 (.ofNat 0)) fun t13 =>
K.iteV t13 (
K.unmarkK [] h10 fun h14 => .ok (.tup [.nilPtr, (.int .i64 (.ofNat 1))]) h14) (
K.ldsK ctx 23 3 t6 h10 fun t15 =>
K.callFK run 20 [t0] h10 fun t16 h17 =>
K.ldsK ctx 23 3 t6 h17 fun t18 =>
K.req (AV.same t15 t18) (
K.callFK run 21 [t15] h17 fun t19 h20 =>
K.ltK (K.binV ctx .lss 3 false t16 t19) t16 t19 fun t21 =>
K.iteV t21 (
K.unmarkK [] h20 fun h22 => .ok (.tup [.nilPtr, (.int .i64 (.ofNat 8))]) h22) (
K.ldsK ctx 23 3 t6 h20 fun t23 =>
K.bldSK ctx 83 [(0, t0), (1, t23), (2, t9)] fun t24 =>
K.boxK t24 h20 fun t25 h26 =>
K.unmarkK [] h26 fun h27 => .ok (.tup [t25, (.int .i64 (.ofNat 0))]) h27)))))
noncomputable def r29 : K.KRun → List AV → H → K.KR := fun run args h => K.uncons args fun t0 l1 => K.uncons l1 fun t2 l3 => K.unnil l3 (
K.eqK (K.binV ctx .eql 44 true t0 .nilPtr) t0 .nilPtr fun t4 =>
K.iteV t4 (
K.unmarkK [] h fun h5 => .ok (.int .i64 (.ofNat 2)) h5) (
K.nilK t0 fun t6 =>
K.fldK 5 t6 fun t7 =>
K.ldK ctx 81 t7 h fun t8 =>
K.lenVK t8 fun t9 =>
K.gtK (K.binV ctx .gtr 3 true t9 (.int .i64 (.ofNat 0))) t9 (.int .i64 (.ofNat 0)) fun t10 =>
K.iteV t10 (
K.unmarkK [] h fun h11 => .ok (.int .i64 (.ofNat 3)) h11) (
K.nilK t0 fun t12 =>
K.fldK 1 t12 fun t13 =>
K.ldsK ctx 23 3 t13 h fun t14 =>
K.callFK run 50 [t14, t2] h fun t15 h16 =>
K.notK t15 fun t17 =>
K.iteV t17 (
K.unmarkK [] h16 fun h18 => .ok (.int .i64 (.ofNat 1)) h18) (
K.callFK run 51 [t2] h16 fun t19 h20 =>
K.extK t19 0 fun t21 =>
K.extK t19 1 fun t22 =>
K.neK (K.binV ctx .neq 25 true t22 (.int .i64 (.ofNat 0))) t22 (.int .i64 (.ofNat 0)) fun t23 =>
K.iteV t23 (
K.unmarkK [] h20 fun h24 => .ok t22 h24) (
K.letK (fun (l25 : List AV) (m26 : List Nat) (h27 : H) => K.uncons l25 fun t29 l30 => K.uncons l30 fun t31 l32 => K.uncons l32 fun t33 l34 => K.uncons l34 fun t35 l36 => K.unnil l36 (
K.callFK run 52 [t29, (.int .u8 (.ofNat 1)), (.int .u8 (.ofNat 2)), t35] h27 fun t37 h38 =>
K.callFK run 54 [t33] h38 fun t39 h40 =>
K.callFK run 53 [t29, (.int .u8 (.ofNat 3)), t39] h40 fun t41 h42 =>
K.callFK run 56 [t31] h42 fun t43 h44 =>
K.callFK run 55 [t29, t43] h44 fun t45 h46 =>
K.unmarkK m26 h46 fun h47 => .ok (.int .i64 (.ofNat 0)) h47)) fun j28 =>
K.lenVK t21 fun t48 =>
K.loopV (nat_lit 1000000) (fun s52 l49 m50 h51 => K.uncons l49 fun t53 l54 => K.uncons l54 fun t55 l56 => K.uncons l56 fun t57 l58 => K.uncons l58 fun t59 l60 => K.uncons l60 fun t61 l62 => K.uncons l62 fun t63 l64 => K.uncons l64 fun t65 l66 => K.unnil l66 (
K.ltK (K.binV ctx .lss 3 false t65 t63) t65 t63 fun t67 =>
K.iteV t67 (
K.idxSK 1 t61 t65 fun t68 =>
K.ldK ctx 57 t68 h51 fun t69 =>
K.nilK t53 fun t70 =>
K.fldK 4 t70 fun t71 =>
K.ldK ctx 3 t71 h51 fun t72 =>
K.addK (K.binV ctx .add 3 true t72 (.int .i64 (.ofNat 8))) t72 (.int .i64 (.ofNat 8)) fun t73 =>
K.addK (K.binV ctx .add 3 false t73 t65) t73 t65 fun t74 =>
K.bldSK ctx 67 [(0, t74), (1, t69)] fun t75 =>
K.bslK ctx 67 2 1 [(0, t75)] h51 fun t76 h77 =>
K.appK ctx 67 2 t59 t76 h77 fun t78 h79 =>
K.addK (K.binV ctx .add 3 true t65 (.int .i64 (.ofNat 1))) t65 (.int .i64 (.ofNat 1)) fun t80 =>
s52 [t53, t55, t57, t78, t61, t63, t80] m50 h79) (
j28 [t53, t55, t57, t59] m50 h51))) [t0, t2, t21, .nilSlice, t21, t48, (.int .i64 (.ofNat 0))] [] h20)))))
noncomputable def r30 : K.KRun → List AV → H → K.KR := fun run args h => K.uncons args fun t0 l1 => K.uncons l1 fun t2 l3 => K.unnil l3 (
K.boxK t0 h fun t4 h5 =>
K.ldsK ctx 23 3 t4 h5 fun t6 =>
K.callFK run 57 [t6, (.int .u8 (.ofNat 9)), t2] h5 fun t7 h8 =>
K.unmarkK [] h8 fun h9 => .ok t7 h9)
noncomputable def r31 : K.KRun → List AV → H → K.KR := fun run args h => K.uncons args fun t0 l1 => K.unnil l1 (
K.callFK run 17 [t0] h fun t2 h3 =>
K.eqK (K.binV ctx .eql 3 true t2 (.int .i64 (.ofNat 0))) t2 (.int .i64 (.ofNat 0)) fun t4 =>
K.iteV t4 (
K.unmarkK [] h3 fun h5 => .ok (.int .u8 (.ofNat 0)) h5) (
K.nilK t0 fun t6 =>
K.fldK 5 t6 fun t7 =>
K.ldK ctx 81 t7 h3 fun t8 =>
K.idxSK 2 t8 (.int .i64 (.ofNat 0)) fun t9 =>
K.fldK 0 t9 fun t10 =>
K.ldK ctx 28 t10 h3 fun t11 =>
K.unmarkK [] h3 fun h12 => .ok t11 h12))
noncomputable def r32 : K.KRun → List AV → H → K.KR := fun run args h => K.uncons args fun t0 l1 => K.uncons l1 fun t2 l3 => K.unnil l3 (
K.callFK run 44 [t0, t2] h fun t4 h5 =>
K.extK t4 0 fun t6 =>
K.extK t4 1 fun t7 =>
K.neK (K.binV ctx .neq 25 true t7 (.int .i64 (.ofNat 0))) t7 (.int .i64 (.ofNat 0)) fun t8 =>
K.iteV t8 (
K.unmarkK [] h5 fun h9 => .ok (.tup [(.int .u64 (.ofNat 0)), t7]) h9) (
K.nilK t6 fun t10 =>
K.fldK 1 t10 fun t11 =>
K.ldK ctx 57 t11 h5 fun t12 =>
K.unmarkK [] h5 fun h13 => .ok (.tup [t12, (.int .i64 (.ofNat 0))]) h13))
noncomputable def r33 : K.KRun → List AV → H → K.KR := fun run args h => K.uncons args fun t0 l1 => K.unnil l1 (
K.allocK (K.zN ctx 3) (K.zT ctx 3) h fun t2 h3 =>
K.letK (fun (l4 : List AV) (m5 : List Nat) (h6 : H) => K.uncons l4 fun t8 l9 => K.unnil l9 (
K.ldK ctx 3 t8 h6 fun t10 =>
K.stK t8 t10 h6 fun h11 =>
K.unmarkK m5 h11 fun h12 => K.asPtr t8 fun n13 n14 => K.load1 h12 n13 n14 fun t15 => .ok t15 h12)) fun j7 =>
K.neK (K.binV ctx .neq 31 true t0 .nilPtr) t0 .nilPtr fun t16 =>
K.iteV t16 (
K.nilK t0 fun t17 =>
K.fldK 0 t17 fun t18 =>
K.ldK ctx 48 t18 h3 fun t19 =>
K.callFK run 47 [t19] h3 fun t20 h21 =>
K.hNew h21 .marks fun r22 h23 => K.hNew h23 (.loop .ready none (K.mkT [2, 9] [t2, t20]) 3 r22) fun n24 h25 =>
K.rngK ctx run t20 n24 h25 (fun h27 => j7 [t2] (r22 :: []) h27) (fun h28 => K.unmarkK (r22 :: []) h28 fun h31 => K.asPtr t2 fun n32 n33 => K.load1 h31 n32 n33 fun t34 => .ok t34 h31) fun i26 h29 => (Bool.rec (motive := fun _ => K.KR) (.bad) (j7 [t2] (r22 :: []) h29) (Nat.beq i26 0))) (
j7 [t2] [] h3))
noncomputable def r34 : K.KRun → List AV → H → K.KR := fun run args h => K.uncons args fun t0 l1 => K.uncons l1 fun t2 l3 => K.unnil l3 (
K.letK (fun (l4 : List AV) (m5 : List Nat) (h6 : H) => K.uncons l4 fun t8 l9 => K.unnil l9 (
K.unmarkK m5 h6 fun h10 => .ok t8 h10)) fun j7 =>
K.neK (K.binV ctx .neq 31 true t0 .nilPtr) t0 .nilPtr fun t11 =>
K.iteV t11 (
K.nilK t0 fun t12 =>
K.fldK 0 t12 fun t13 =>
K.ldK ctx 48 t13 h fun t14 =>
K.lenVK t14 fun t15 =>
K.loopV (nat_lit 1000000) (fun s19 l16 m17 h18 => K.uncons l16 fun t20 l21 => K.uncons l21 fun t22 l23 => K.uncons l23 fun t24 l25 => K.uncons l25 fun t26 l27 => K.uncons l27 fun t28 l29 => K.unnil l29 (
K.ltK (K.binV ctx .lss 3 false t28 t26) t28 t26 fun t30 =>
K.iteV t30 (
K.idxSK 6 t24 t28 fun t31 =>
K.ldsK ctx 77 6 t31 h18 fun t32 =>
K.allocK (K.zN ctx 77) (K.zT ctx 77) h18 fun t33 h34 =>
K.stsK 6 t33 t32 h34 fun h35 =>
K.ldsK ctx 77 6 t33 h35 fun t36 =>
K.callVK run t20 [t36] h35 fun t37 h38 =>
K.bslK ctx 57 1 1 [(0, t37)] h38 fun t39 h40 =>
K.appK ctx 57 1 t22 t39 h40 fun t41 h42 =>
K.addK (K.binV ctx .add 3 true t28 (.int .i64 (.ofNat 1))) t28 (.int .i64 (.ofNat 1)) fun t43 =>
s19 [t20, t41, t24, t26, t43] m17 h42) (
j7 [t22] m17 h18))) [t2, .nilSlice, t14, t15, (.int .i64 (.ofNat 0))] [] h) (
j7 [.nilSlice] [] h))
noncomputable def r35 : K.KRun → List AV → H → K.KR := fun run args h => K.uncons args fun t0 l1 => K.unnil l1 (
K.boxK t0 h fun t2 h3 =>
K.fldK 1 t2 fun t4 =>
K.ldK ctx 57 t4 h3 fun t5 =>
K.unmarkK [] h3 fun h6 => .ok t5 h6)
noncomputable def r36 : K.KRun → List AV → H → K.KR := fun run args h => K.uncons args fun t0 l1 => K.unnil l1 (
K.eqK (K.binV ctx .eql 44 true t0 .nilPtr) t0 .nilPtr fun t2 =>
K.iteV t2 (
K.unmarkK [] h fun h3 => .ok (.tup [(.bool false), (.int .i64 (.ofNat 2))]) h3) (
K.nilK t0 fun t4 =>
K.fldK 5 t4 fun t5 =>
K.ldK ctx 81 t5 h fun t6 =>
K.lenVK t6 fun t7 =>
K.gtK (K.binV ctx .gtr 3 true t7 (.int .i64 (.ofNat 0))) t7 (.int .i64 (.ofNat 0)) fun t8 =>
K.iteV t8 (
K.unmarkK [] h fun h9 => .ok (.tup [(.bool false), (.int .i64 (.ofNat 3))]) h9) (
K.letK (fun (l10 : List AV) (m11 : List Nat) (h12 : H) => K.uncons l10 fun t14 l15 => K.uncons l15 fun t16 l17 => K.unnil l17 (
K.nilK t14 fun t18 =>
K.fldK 1 t18 fun t19 =>
K.ldsK ctx 23 3 t19 h12 fun t20 =>
K.callFK run 58 [t20, t16] h12 fun t21 h22 =>
K.extK t21 0 fun t23 =>
K.extK t21 1 fun t24 =>
K.extK t21 2 fun t25 =>
K.letK (fun (l26 : List AV) (m27 : List Nat) (h28 : H) => K.unnil l26 (
K.unmarkK m27 h28 fun h30 => .ok (.tup [(.bool true), (.int .i64 (.ofNat 0))]) h30)) fun j29 =>
K.notK t25 fun t31 =>
K.iteV t31 (
K.unmarkK m11 h22 fun h32 => .ok (.tup [(.bool false), (.int .i64 (.ofNat 0))]) h32) (
K.iteV t24 (
K.callFK run 55 [t14, t23] h22 fun t33 h34 =>
j29 [] m11 h34) (
K.callFK run 53 [t14, (.int .u8 (.ofNat 6)), (.int .u64 (.ofNat 0))] h22 fun t35 h36 =>
j29 [] m11 h36)))) fun j13 =>
K.loopV (nat_lit 1000000) (fun s40 l37 m38 h39 => K.uncons l37 fun t41 l42 => K.uncons l42 fun t43 l44 => K.uncons l44 fun t45 l46 => K.unnil l46 (
K.ltK (K.binV ctx .lss 3 true t45 (.int .i64 (.ofNat 208))) t45 (.int .i64 (.ofNat 208)) fun t47 =>
K.iteV t47 (
K.nilK t41 fun t48 =>
K.fldK 0 t48 fun t49 =>
K.ldK ctx 31 t49 h39 fun t50 =>
K.nilK t41 fun t51 =>
K.fldK 4 t51 fun t52 =>
K.ldK ctx 3 t52 h39 fun t53 =>
K.addK (K.binV ctx .add 3 false t53 t45) t53 t45 fun t54 =>
K.callFK run 32 [t50, t54] h39 fun t55 h56 =>
K.extK t55 0 fun t57 =>
K.extK t55 1 fun t58 =>
K.neK (K.binV ctx .neq 25 true t58 (.int .i64 (.ofNat 0))) t58 (.int .i64 (.ofNat 0)) fun t59 =>
K.iteV t59 (
K.unmarkK m38 h56 fun h60 => .ok (.tup [(.bool false), t58]) h60) (
K.bslK ctx 57 1 1 [(0, t57)] h56 fun t61 h62 =>
K.appK ctx 57 1 t43 t61 h62 fun t63 h64 =>
K.addK (K.binV ctx .add 3 true t45 (.int .i64 (.ofNat 1))) t45 (.int .i64 (.ofNat 1)) fun t65 =>
s40 [t41, t63, t65] m38 h64)) (
j13 [t41, t43] m38 h39))) [t0, .nilSlice, (.int .i64 (.ofNat 0))] [] h)))
noncomputable def r37 : K.KRun → List AV → H → K.KR := fun run args h => K.uncons args fun t0 l1 => K.uncons l1 fun t2 l3 => K.unnil l3 (
K.allocK (K.zN ctx 23) (K.zT ctx 23) h fun t4 h5 =>
K.rK (convA ctx 5 3 t0 h5) fun t6 h7 =>
K.oK (K.binV ctx .rem 3 true t6 (.int .i64 (.ofNat 20))) fun t8 =>
K.addK (K.binV ctx .add 3 true (.int .i64 (.ofNat 2)) t8) (.int .i64 (.ofNat 2)) t8 fun t9 =>
K.rK (convA ctx 5 3 t2 h7) fun t10 h11 =>
K.oK (K.binV ctx .rem 3 true t10 (.int .i64 (.ofNat 60))) fun t12 =>
K.addK (K.binV ctx .add 3 true (.int .i64 (.ofNat 2)) t12) (.int .i64 (.ofNat 2)) t12 fun t13 =>
K.bldSK ctx 23 [(0, (.int .i64 (.ofNat 1))), (1, t9), (2, t13)] fun t14 =>
K.stsK 3 t4 t14 h11 fun h15 =>
K.unmarkK [] h15 fun h16 => K.asPtr t4 fun n17 n18 => K.loads h16 n17 n18 3 fun t19 => .ok (.agg t19) h16)
noncomputable def r38 : K.KRun → List AV → H → K.KR := fun run args h => K.uncons args fun t0 l1 => K.uncons l1 fun t2 l3 => K.uncons l3 fun t4 l5 => K.unnil l5 (
K.geK (K.binV ctx .geq 3 false t0 t2) t0 t2 fun t6 =>
K.letK (fun (t7 : AV) (h8 : H) => K.letK (fun (t10 : AV) (h11 : H) => K.letK (fun (t13 : AV) (h14 : H) => K.pickK t6 t13 (.bool false) fun t16 =>
K.unmarkK [] h14 fun h17 => .ok t16 h17) fun j15 =>
K.guK true t6 (K.leK (K.binV ctx .leq 3 false t7 t10) t7 t10 fun t18 =>
j15 t18 h11) (j15 (.tup []) h11)) fun j12 =>
K.guK true t6 (j12 t4 h8) (j12 (.tup []) h8)) fun j9 =>
K.guK true t6 (j9 t0 h) (j9 (.tup []) h))
noncomputable def r39 : K.KRun → List AV → H → K.KR := fun run args h => K.uncons args fun t0 l1 => K.unnil l1 (
K.boxK t0 h fun t2 h3 =>
K.allocK (K.zN ctx 90) (K.zT ctx 90) h3 fun t4 h5 =>
K.bldSK ctx 89 [(0, (.int .u8 (.ofNat 1))), (1, (.int .i64 (.ofNat 8))), (2, (.int .i64 (.ofNat 1)))] fun t6 =>
K.bldSK ctx 89 [(0, (.int .u8 (.ofNat 2))), (1, (.int .i64 (.ofNat 64))), (2, (.int .i64 (.ofNat 4)))] fun t7 =>
K.fldK 0 t2 fun t8 =>
K.ldK ctx 3 t8 h5 fun t9 =>
K.bldSK ctx 89 [(0, (.int .u8 (.ofNat 5))), (1, (.int .i64 (.ofNat 208))), (2, t9)] fun t10 =>
K.bldSK ctx 89 [(0, (.int .u8 (.ofNat 6))), (1, (.int .i64 (.ofNat 8))), (2, (.int .i64 (.ofNat 1)))] fun t11 =>
K.bldSK ctx 89 [(0, (.int .u8 (.ofNat 7))), (1, (.int .i64 (.ofNat 8))), (2, (.int .i64 (.ofNat 1)))] fun t12 =>
K.fldK 1 t2 fun t13 =>
K.ldK ctx 3 t13 h5 fun t14 =>
K.bldSK ctx 89 [(0, (.int .u8 (.ofNat 8))), (1, (.int .i64 (.ofNat 16))), (2, t14)] fun t15 =>
K.fldK 2 t2 fun t16 =>
K.ldK ctx 3 t16 h5 fun t17 =>
K.bldSK ctx 89 [(0, (.int .u8 (.ofNat 9))), (1, (.int .i64 (.ofNat 8))), (2, t17)] fun t18 =>
K.bldAK ctx 90 3 [(0, t6), (1, t7), (2, t10), (3, t11), (4, t12), (5, t15), (6, t18)] fun t19 =>
K.stsK 21 t4 t19 h5 fun h20 =>
K.unmarkK [] h20 fun h21 => K.asPtr t4 fun n22 n23 => K.loads h21 n22 n23 21 fun t24 => .ok (.agg t24) h21)
noncomputable def r40 : K.KRun → List AV → H → K.KR := fun run args h => K.uncons args fun t0 l1 => K.unnil l1 (
K.boxK t0 h fun t2 h3 =>
K.ldsK ctx 23 3 t2 h3 fun t4 =>
K.callFK run 57 [t4, (.int .u8 (.ofNat 6)), (.int .i64 (.ofNat 0))] h3 fun t5 h6 =>
K.unmarkK [] h6 fun h7 => .ok t5 h7)
noncomputable def r41 : K.KRun → List AV → H → K.KR := fun run args h => K.uncons args fun t0 l1 => K.unnil l1 (
K.boxK t0 h fun t2 h3 =>
K.ldsK ctx 23 3 t2 h3 fun t4 =>
K.callFK run 57 [t4, (.int .u8 (.ofNat 7)), (.int .i64 (.ofNat 0))] h3 fun t5 h6 =>
K.unmarkK [] h6 fun h7 => .ok t5 h7)
noncomputable def r42 : K.KRun → List AV → H → K.KR := fun run args h => K.uncons args fun t0 l1 => K.uncons l1 fun t2 l3 => K.unnil l3 (
K.boxK t0 h fun t4 h5 =>
K.ldsK ctx 23 3 t4 h5 fun t6 =>
K.callFK run 57 [t6, (.int .u8 (.ofNat 8)), t2] h5 fun t7 h8 =>
K.unmarkK [] h8 fun h9 => .ok t7 h9)
noncomputable def r43 : K.KRun → List AV → H → K.KR := fun run args h => K.uncons args fun t0 l1 => K.uncons l1 fun t2 l3 => K.unnil l3 (
K.ldK ctx 42 t2 h fun t4 =>
K.lenVK t4 fun t5 =>
K.subK (K.binV ctx .sub 3 true t5 (.int .i64 (.ofNat 1))) t5 (.int .i64 (.ofNat 1)) fun t6 =>
K.loopV (nat_lit 1000000) (fun s10 l7 m8 h9 => K.uncons l7 fun t11 l12 => K.uncons l12 fun t13 l14 => K.uncons l14 fun t15 l16 => K.unnil l16 (
K.geK (K.binV ctx .geq 3 true t15 (.int .i64 (.ofNat 0))) t15 (.int .i64 (.ofNat 0)) fun t17 =>
K.iteV t17 (
K.ldK ctx 42 t13 h9 fun t18 =>
K.idxSK 1 t18 t15 fun t19 =>
K.ldK ctx 57 t19 h9 fun t20 =>
K.callVK run t11 [t15, t20] h9 fun t21 h22 =>
K.notK t21 fun t23 =>
K.iteV t23 (
K.unmarkK m8 h22 fun h24 => .ok (.tup []) h24) (
K.subK (K.binV ctx .sub 3 true t15 (.int .i64 (.ofNat 1))) t15 (.int .i64 (.ofNat 1)) fun t25 =>
s10 [t11, t13, t25] m8 h22)) (
K.unmarkK m8 h9 fun h26 => .ok (.tup []) h26))) [t0, t2, t6] [] h)
noncomputable def r44 : K.KRun → List AV → H → K.KR := fun run args h => K.uncons args fun t0 l1 => K.uncons l1 fun t2 l3 => K.unnil l3 (
K.eqK (K.binV ctx .eql 31 true t0 .nilPtr) t0 .nilPtr fun t4 =>
K.iteV t4 (
K.unmarkK [] h fun h5 => .ok (.tup [.nilPtr, (.int .i64 (.ofNat 2))]) h5) (
K.letK (fun (l6 : List AV) (m7 : List Nat) (h8 : H) => K.uncons l6 fun t10 l11 => K.uncons l11 fun t12 l13 => K.uncons l13 fun t14 l15 => K.unnil l15 (
K.iteV t14 (
K.unmarkK m7 h8 fun h16 => .ok (.tup [.nilPtr, (.int .i64 (.ofNat 8))]) h16) (
K.nilK t10 fun t17 =>
K.fldK 0 t17 fun t18 =>
K.ldK ctx 48 t18 h8 fun t19 =>
K.idxSK 6 t19 t12 fun t20 =>
K.unmarkK m7 h8 fun h21 => .ok (.tup [t20, (.int .i64 (.ofNat 0))]) h21))) fun j9 =>
K.ltK (K.binV ctx .lss 3 true t2 (.int .i64 (.ofNat 0))) t2 (.int .i64 (.ofNat 0)) fun t22 =>
K.iteV t22 (
j9 [t0, t2, t22] [] h) (
K.nilK t0 fun t23 =>
K.fldK 0 t23 fun t24 =>
K.ldK ctx 48 t24 h fun t25 =>
K.lenVK t25 fun t26 =>
K.geK (K.binV ctx .geq 3 false t2 t26) t2 t26 fun t27 =>
j9 [t0, t2, t27] [] h)))
noncomputable def r45 : K.KRun → List AV → H → K.KR := fun run args h => K.uncons args fun t0 l1 => K.uncons l1 fun t2 l3 => K.uncons l3 fun t4 l5 => K.unnil l5 (
K.boxK t4 h fun t6 h7 =>
K.eqK (K.binV ctx .eql 31 true t0 .nilPtr) t0 .nilPtr fun t8 =>
K.iteV t8 (
K.unmarkK [] h7 fun h9 => .ok (.int .i64 (.ofNat 2)) h9) (
K.letK (fun (l10 : List AV) (m11 : List Nat) (h12 : H) => K.uncons l10 fun t14 l15 => K.uncons l15 fun t16 l17 => K.uncons l17 fun t18 l19 => K.uncons l19 fun t20 l21 => K.unnil l21 (
K.iteV t20 (
K.unmarkK m11 h12 fun h22 => .ok (.int .i64 (.ofNat 8)) h22) (
K.letK (fun (l23 : List AV) (m24 : List Nat) (h25 : H) => K.unnil l23 (
K.unmarkK m24 h25 fun h27 => .ok (.int .i64 (.ofNat 0)) h27)) fun j26 =>
K.nilK t14 fun t28 =>
K.fldK 0 t28 fun t29 =>
K.ldK ctx 48 t29 h12 fun t30 =>
K.mulK (K.binV ctx .mul 3 true t16 (.int .i64 (.ofNat 8))) t16 (.int .i64 (.ofNat 8)) fun t31 =>
K.addK (K.binV ctx .add 3 true t16 (.int .i64 (.ofNat 1))) t16 (.int .i64 (.ofNat 1)) fun t32 =>
K.mulK (K.binV ctx .mul 3 true t32 (.int .i64 (.ofNat 8))) t32 (.int .i64 (.ofNat 8)) fun t33 =>
K.slcK ctx 48 t30 (some t31) (some t33) none h12 fun t34 =>
K.callFK run 47 [t34] h12 fun t35 h36 =>
K.hNew h36 .marks fun r37 h38 => K.hNew h38 (.loop .ready none (K.mkT [5, 32] [t18, t35]) 4 r37) fun n39 h40 =>
K.rngK ctx run t35 n39 h40 (fun h42 => j26 [] (r37 :: m11) h42) (fun h43 => K.unmarkK (r37 :: m11) h43 fun h46 => .bad) fun i41 h44 => (Bool.rec (motive := fun _ => K.KR) (.bad) (j26 [] (r37 :: m11) h44) (Nat.beq i41 1))))) fun j13 =>
K.ltK (K.binV ctx .lss 3 true t2 (.int .i64 (.ofNat 0))) t2 (.int .i64 (.ofNat 0)) fun t47 =>
K.iteV t47 (
j13 [t0, t2, t6, t47] [] h7) (
K.nilK t0 fun t48 =>
K.fldK 0 t48 fun t49 =>
K.ldK ctx 48 t49 h7 fun t50 =>
K.lenVK t50 fun t51 =>
K.oK (K.binV ctx .quo 3 true t51 (.int .i64 (.ofNat 8))) fun t52 =>
K.geK (K.binV ctx .geq 3 false t2 t52) t2 t52 fun t53 =>
j13 [t0, t2, t6, t53] [] h7)))
noncomputable def r46 : K.KRun → List AV → H → K.KR := fun run args h => K.uncons args fun t0 l1 => K.unnil l1 (
K.nilK t0 fun t2 =>
K.fldK 1 t2 fun t3 =>
K.ldK ctx 57 t3 h fun t4 =>
K.bldSK ctx 75 [(0, (.bool true)), (1, (.bool true)), (3, t4)] fun t5 =>
K.nilK t0 fun t6 =>
K.fldK 2 t6 fun t7 =>
K.stsK 4 t7 t5 h fun h8 =>
K.unmarkK [] h8 fun h9 => .ok (.tup []) h9)
noncomputable def r47 : K.KRun → List AV → H → K.KR := fun run args h => K.uncons args fun t0 l1 => K.unnil l1 (
K.boxK t0 h fun t2 h3 =>
K.unmarkK [] h3 fun h4 => .ok (.func (.func 59) [] [t2]) h4)
noncomputable def r48 : K.KRun → List AV → H → K.KR := fun run args h => K.uncons args fun t0 l1 => K.uncons l1 fun t2 l3 => K.unnil l3 (
K.bldSK ctx 75 [] fun t4 =>
K.nilK t0 fun t5 =>
K.fldK 0 t5 fun t6 =>
K.stK t6 t2 h fun h7 =>
K.nilK t0 fun t8 =>
K.fldK 2 t8 fun t9 =>
K.stsK 4 t9 t4 h7 fun h10 =>
K.unmarkK [] h10 fun h11 => .ok (.tup []) h11)
noncomputable def r49 : K.KRun → List AV → H → K.KR := fun run args h => K.uncons args fun t0 l1 => K.uncons l1 fun t2 l3 => K.unnil l3 (
K.boxK t0 h fun t4 h5 =>
K.ldsK ctx 23 3 t4 h5 fun t6 =>
K.callFK run 57 [t6, (.int .u8 (.ofNat 5)), t2] h5 fun t7 h8 =>
K.unmarkK [] h8 fun h9 => .ok t7 h9)
noncomputable def r50 : K.KRun → List AV → H → K.KR := fun run args h => K.uncons args fun t0 l1 => K.uncons l1 fun t2 l3 => K.unnil l3 (
K.boxK t0 h fun t4 h5 =>
K.ldsK ctx 23 3 t4 h5 fun t6 =>
K.callFK run 19 [t6] h5 fun t7 h8 =>
K.notK t7 fun t9 =>
K.letK (fun (t10 : AV) (h11 : H) => K.letK (fun (t13 : AV) (h14 : H) => K.letK (fun (t16 : AV) (h17 : H) => K.pickK t9 (.bool true) t16 fun t19 =>
K.iteV t19 (
K.unmarkK [] h17 fun h20 => .ok (.bool false) h20) (
K.slowK ctx run (K.opAt Go.Proofs.Try.f50 3 0) [] [] h17 fun t21 h22 =>
K.letK (fun (l23 : List AV) (m24 : List Nat) (h25 : H) => K.unnil l23 (
K.unmarkK m24 h25 fun h27 => .ok (.bool true) h27)) fun j26 =>
K.lenVK t2 fun t28 =>
K.loopV (nat_lit 1000000) (fun s32 l29 m30 h31 => K.uncons l29 fun t33 l34 => K.uncons l34 fun t35 l36 => K.uncons l36 fun t37 l38 => K.uncons l38 fun t39 l40 => K.uncons l40 fun t41 l42 => K.unnil l42 (
K.ltK (K.binV ctx .lss 3 false t41 t39) t41 t39 fun t43 =>
K.iteV t43 (
K.idxSK 2 t37 t41 fun t44 =>
K.ldsK ctx 67 2 t44 h31 fun t45 =>
K.allocK (K.zN ctx 67) (K.zT ctx 67) h31 fun t46 h47 =>
K.stsK 2 t46 t45 h47 fun h48 =>
K.ldsK ctx 23 3 t33 h48 fun t49 =>
K.fldK 0 t46 fun t50 =>
K.ldK ctx 3 t50 h48 fun t51 =>
K.callFK run 60 [t49, t51] h48 fun t52 h53 =>
K.extK t52 0 fun t54 =>
K.extK t52 1 fun t55 =>
K.extK t52 2 fun t56 =>
K.extK t52 3 fun t57 =>
K.callFK run 61 [t54] h53 fun t58 h59 =>
K.notK t58 fun t60 =>
K.letK (fun (t61 : AV) (h62 : H) => K.letK (fun (t64 : AV) (h65 : H) => K.letK (fun (t67 : AV) (h68 : H) => K.letK (fun (t70 : AV) (h71 : H) => K.letK (fun (t73 : AV) (h74 : H) => K.pickK t60 (.bool true) t73 fun t76 =>
K.iteV t76 (
K.unmarkK m30 h74 fun h77 => .ok (.bool false) h77) (
K.fldK 0 t46 fun t78 =>
K.ldK ctx 3 t78 h74 fun t79 =>
K.slowK ctx run (K.opAt Go.Proofs.Try.f50 10 3) [46, 48] [t35, t79] h74 fun t80 h81 =>
K.addK (K.binV ctx .add 3 true t41 (.int .i64 (.ofNat 1))) t41 (.int .i64 (.ofNat 1)) fun t82 =>
s32 [t33, t35, t37, t39, t82] m30 h81)) fun j75 =>
K.guK false t60 (K.gtK (K.binV ctx .gtr 3 true t70 (.int .i64 (.ofNat 0))) t70 (.int .i64 (.ofNat 0)) fun t83 =>
j75 t83 h71) (j75 (.tup []) h71)) fun j72 =>
K.guK false t60 (K.slowK ctx run (K.opAt Go.Proofs.Try.f50 8 7) [40, 42] [t61, t67] h68 fun t84 h85 =>
j72 t84 h85) (j72 (.tup []) h68)) fun j69 =>
K.guK false t60 (K.ldK ctx 3 t64 h65 fun t86 =>
j69 t86 h65) (j69 (.tup []) h65)) fun j66 =>
K.guK false t60 (K.fldK 0 t46 fun t87 =>
j66 t87 h62) (j66 (.tup []) h62)) fun j63 =>
K.guK false t60 (j63 t35 h59) (j63 (.tup []) h59)) (
j26 [] m30 h31))) [t4, t21, t2, t28, (.int .i64 (.ofNat 0))] [] h22)) fun j18 =>
K.guK false t9 (K.gtK (K.binV ctx .gtr 3 true t13 (.int .i64 (.ofNat 96))) t13 (.int .i64 (.ofNat 96)) fun t88 =>
j18 t88 h14) (j18 (.tup []) h14)) fun j15 =>
K.guK false t9 (K.lenVK t10 fun t89 =>
j15 t89 h11) (j15 (.tup []) h11)) fun j12 =>
K.guK false t9 (j12 t2 h8) (j12 (.tup []) h8))
noncomputable def r51 : K.KRun → List AV → H → K.KR := fun run args h => K.uncons args fun t0 l1 => K.unnil l1 (
K.allocK (K.zN ctx 42) (K.zT ctx 42) h fun t2 h3 =>
K.lenVK t0 fun t4 =>
K.gtK (K.binV ctx .gtr 3 true t4 (.int .i64 (.ofNat 96))) t4 (.int .i64 (.ofNat 96)) fun t5 =>
K.iteV t5 (
K.stK t2 .nilSlice h3 fun h6 =>
K.unmarkK [] h6 fun h7 => K.asPtr t2 fun n8 n9 => K.load1 h7 n8 n9 fun t10 => .ok (.tup [t10, (.int .i64 (.ofNat 5))]) h7) (
K.lenVK t0 fun t11 =>
K.rK (convA ctx 3 57 t11 h3) fun t12 h13 =>
K.bslK ctx 57 1 1 [(0, t12)] h13 fun t14 h15 =>
K.callVK run (.func (.func 62) [] [t2]) [t14] h15 fun t16 h17 =>
K.letK (fun (l18 : List AV) (m19 : List Nat) (h20 : H) => K.uncons l18 fun t22 l23 => K.uncons l23 fun t24 l25 => K.unnil l25 (
K.ldK ctx 42 t22 h20 fun t26 =>
K.callFK run 63 [t26] h20 fun t27 h28 =>
K.bslK ctx 57 1 1 [(0, t27)] h28 fun t29 h30 =>
K.callVK run t24 [t29] h30 fun t31 h32 =>
K.ldK ctx 42 t22 h32 fun t33 =>
K.stK t22 t33 h32 fun h34 =>
K.unmarkK m19 h34 fun h35 => K.asPtr t22 fun n36 n37 => K.load1 h35 n36 n37 fun t38 => .ok (.tup [t38, (.int .i64 (.ofNat 0))]) h35)) fun j21 =>
K.lenVK t0 fun t39 =>
K.loopV (nat_lit 1000000) (fun s43 l40 m41 h42 => K.uncons l40 fun t44 l45 => K.uncons l45 fun t46 l47 => K.uncons l47 fun t48 l49 => K.uncons l49 fun t50 l51 => K.uncons l51 fun t52 l53 => K.unnil l53 (
K.ltK (K.binV ctx .lss 3 false t52 t50) t52 t50 fun t54 =>
K.iteV t54 (
K.idxSK 2 t48 t52 fun t55 =>
K.ldsK ctx 67 2 t55 h42 fun t56 =>
K.allocK (K.zN ctx 67) (K.zT ctx 67) h42 fun t57 h58 =>
K.stsK 2 t57 t56 h58 fun h59 =>
K.fldK 0 t57 fun t60 =>
K.ldK ctx 3 t60 h59 fun t61 =>
K.ltK (K.binV ctx .lss 3 true t61 (.int .i64 (.ofNat 0))) t61 (.int .i64 (.ofNat 0)) fun t62 =>
K.iteV t62 (
K.stK t44 .nilSlice h59 fun h63 =>
K.unmarkK m41 h63 fun h64 => K.asPtr t44 fun n65 n66 => K.load1 h64 n65 n66 fun t67 => .ok (.tup [t67, (.int .i64 (.ofNat 1))]) h64) (
K.fldK 0 t57 fun t68 =>
K.ldK ctx 3 t68 h59 fun t69 =>
K.rK (convA ctx 3 57 t69 h59) fun t70 h71 =>
K.fldK 1 t57 fun t72 =>
K.ldK ctx 57 t72 h71 fun t73 =>
K.bslK ctx 57 1 2 [(0, t70), (1, t73)] h71 fun t74 h75 =>
K.callVK run t46 [t74] h75 fun t76 h77 =>
K.addK (K.binV ctx .add 3 true t52 (.int .i64 (.ofNat 1))) t52 (.int .i64 (.ofNat 1)) fun t78 =>
s43 [t44, t46, t48, t50, t78] m41 h77)) (
j21 [t44, t46] m41 h42))) [t2, (.func (.func 62) [] [t2]), t0, t39, (.int .i64 (.ofNat 0))] [] h17))
noncomputable def r52 : K.KRun → List AV → H → K.KR := fun run args h => K.uncons args fun t0 l1 => K.uncons l1 fun t2 l3 => K.uncons l3 fun t4 l5 => K.uncons l5 fun t6 l7 => K.unnil l7 (
K.callFK run 64 [t0, t2, t6] h fun t8 h9 =>
K.callFK run 65 [t0, t4, t6] h9 fun t10 h11 =>
K.unmarkK [] h11 fun h12 => .ok (.tup []) h12)
noncomputable def r53 : K.KRun → List AV → H → K.KR := fun run args h => K.uncons args fun t0 l1 => K.uncons l1 fun t2 l3 => K.uncons l3 fun t4 l5 => K.unnil l5 (
K.nilK t0 fun t6 =>
K.fldK 4 t6 fun t7 =>
K.ldK ctx 3 t7 h fun t8 =>
K.bldSK ctx 67 [(0, t8), (1, t4)] fun t9 =>
K.bslK ctx 67 2 1 [(0, t9)] h fun t10 h11 =>
K.callFK run 52 [t0, t2, t2, t10] h11 fun t12 h13 =>
K.unmarkK [] h13 fun h14 => .ok (.tup []) h14)
noncomputable def r54 : K.KRun → List AV → H → K.KR := fun run args h => K.uncons args fun t0 l1 => K.unnil l1 (
K.callFK run 66 [t0] h fun t2 h3 =>
K.extK t2 0 fun t4 =>
K.extK t2 1 fun t5 =>
K.extK t2 2 fun t6 =>
K.notK t6 fun t7 =>
K.iteV t7 (
K.unmarkK [] h3 fun h8 => .ok (.int .u64 (.ofNat 0)) h8) (
K.oK (K.binV ctx .shl 57 true t5 (.int .u64 (.ofNat 16))) fun t9 =>
K.idxSK 1 t4 (.int .i64 (.ofNat 0)) fun t10 =>
K.ldK ctx 57 t10 h3 fun t11 =>
K.oK (K.binV ctx .shl 57 true t11 (.int .u64 (.ofNat 8))) fun t12 =>
K.oK (K.binV ctx .or 57 false t9 t12) fun t13 =>
K.oK (K.binV ctx .or 57 true t13 (.int .u64 (.ofNat 1))) fun t14 =>
K.unmarkK [] h3 fun h15 => .ok t14 h15))
noncomputable def r55 : K.KRun → List AV → H → K.KR := fun run args h => K.uncons args fun t0 l1 => K.uncons l1 fun t2 l3 => K.unnil l3 (
K.callFK run 52 [t0, (.int .u8 (.ofNat 4)), (.int .u8 (.ofNat 5)), t2] h fun t4 h5 =>
K.callFK run 53 [t0, (.int .u8 (.ofNat 6)), (.int .u64 (.ofNat 0))] h5 fun t6 h7 =>
K.unmarkK [] h7 fun h8 => .ok (.tup []) h8)
noncomputable def r56 : K.KRun → List AV → H → K.KR := fun run args h => K.uncons args fun t0 l1 => K.unnil l1 (
K.eqK (K.binV ctx .eql 68 true t0 .nilSlice) t0 .nilSlice fun t2 =>
K.iteV t2 (
K.unmarkK [] h fun h3 => .ok .nilSlice h3) (
K.bslK ctx 67 2 0 [] h fun t4 h5 =>
K.appK ctx 67 2 t4 t0 h5 fun t6 h7 =>
K.unmarkK [] h7 fun h8 => .ok t6 h8))
noncomputable def r57 : K.KRun → List AV → H → K.KR := fun run args h => K.uncons args fun t0 l1 => K.uncons l1 fun t2 l3 => K.uncons l3 fun t4 l5 => K.unnil l5 (
K.boxK t0 h fun t6 h7 =>
K.letK (fun (l8 : List AV) (m9 : List Nat) (h10 : H) => K.unnil l8 (
K.unmarkK m9 h10 fun h12 => .ok (.int .i64 (.negSucc 0)) h12)) fun j11 =>
K.ldsK ctx 23 3 t6 h7 fun t13 =>
K.callFK run 39 [t13] h7 fun t14 h15 =>
K.loopV (nat_lit 1000000) (fun s19 l16 m17 h18 => K.uncons l16 fun t20 l21 => K.uncons l21 fun t22 l23 => K.uncons l23 fun t24 l25 => K.uncons l25 fun t26 l27 => K.uncons l27 fun t28 l29 => K.uncons l29 fun t30 l31 => K.unnil l31 (
K.ltK (K.binV ctx .lss 3 true t30 (.int .i64 (.ofNat 7))) t30 (.int .i64 (.ofNat 7)) fun t32 =>
K.iteV t32 (
K.idxK ctx 89 3 7 t28 t30 fun t33 =>
K.allocK (K.zN ctx 89) (K.zT ctx 89) h18 fun t34 h35 =>
K.stsK 3 t34 t33 h35 fun h36 =>
K.fldK 0 t34 fun t37 =>
K.ldK ctx 87 t37 h36 fun t38 =>
K.neK (K.binV ctx .neq 87 false t38 t20) t38 t20 fun t39 =>
K.iteV t39 (
K.fldK 1 t34 fun t40 =>
K.ldK ctx 3 t40 h36 fun t41 =>
K.fldK 2 t34 fun t42 =>
K.ldK ctx 3 t42 h36 fun t43 =>
K.mulK (K.binV ctx .mul 3 false t41 t43) t41 t43 fun t44 =>
K.addK (K.binV ctx .add 3 false t26 t44) t26 t44 fun t45 =>
K.addK (K.binV ctx .add 3 true t30 (.int .i64 (.ofNat 1))) t30 (.int .i64 (.ofNat 1)) fun t46 =>
s19 [t20, t22, t24, t45, t28, t46] m17 h36) (
K.ldsK ctx 23 3 t24 h36 fun t47 =>
K.callFK run 19 [t47] h36 fun t48 h49 =>
K.letK (fun (t50 : AV) (h51 : H) => K.letK (fun (t53 : AV) (h54 : H) => K.letK (fun (t56 : AV) (h57 : H) => K.letK (fun (t59 : AV) (h60 : H) => K.letK (fun (t62 : AV) (h63 : H) => K.pickK t48 t62 (.bool false) fun t65 =>
K.iteV t65 (
K.fldK 1 t34 fun t66 =>
K.ldK ctx 3 t66 h63 fun t67 =>
K.mulK (K.binV ctx .mul 3 false t67 t22) t67 t22 fun t68 =>
K.addK (K.binV ctx .add 3 false t26 t68) t26 t68 fun t69 =>
K.unmarkK m17 h63 fun h70 => .ok t69 h70) (
j11 [] m17 h63)) fun j64 =>
K.guK true t48 (K.callFK run 38 [t50, (.int .i64 (.ofNat 0)), t59] h60 fun t71 h72 =>
j64 t71 h72) (j64 (.tup []) h60)) fun j61 =>
K.guK true t48 (K.subK (K.binV ctx .sub 3 true t56 (.int .i64 (.ofNat 1))) t56 (.int .i64 (.ofNat 1)) fun t73 =>
j61 t73 h57) (j61 (.tup []) h57)) fun j58 =>
K.guK true t48 (K.ldK ctx 3 t53 h54 fun t74 =>
j58 t74 h54) (j58 (.tup []) h54)) fun j55 =>
K.guK true t48 (K.fldK 2 t34 fun t75 =>
j55 t75 h51) (j55 (.tup []) h51)) fun j52 =>
K.guK true t48 (j52 t22 h49) (j52 (.tup []) h49))) (
j11 [] m17 h18))) [t2, t4, t6, (.int .i64 (.ofNat 0)), t14, (.int .i64 (.ofNat 0))] [] h15)
noncomputable def r58 : K.KRun → List AV → H → K.KR := fun run args h => K.uncons args fun t0 l1 => K.uncons l1 fun t2 l3 => K.unnil l3 (
K.boxK t0 h fun t4 h5 =>
K.idxSK 1 t2 (.int .i64 (.ofNat 0)) fun t6 =>
K.ldK ctx 57 t6 h5 fun t7 =>
K.slcK ctx 42 t2 (some (.int .i64 (.ofNat 8))) none none h5 fun t8 =>
K.eqK (K.binV ctx .eql 57 true t7 (.int .u64 (.ofNat 0))) t7 (.int .u64 (.ofNat 0)) fun t9 =>
K.iteV t9 (
K.unmarkK [] h5 fun h10 => .ok (.tup [.nilSlice, (.bool false), (.bool false)]) h10) (
K.ldsK ctx 23 3 t4 h5 fun t11 =>
K.callFK run 67 [t11, t8] h5 fun t12 h13 =>
K.extK t12 0 fun t14 =>
K.extK t12 1 fun t15 =>
K.eqK (K.binV ctx .eql 25 true t15 (.int .i64 (.ofNat 0))) t15 (.int .i64 (.ofNat 0)) fun t16 =>
K.letK (fun (t17 : AV) (h18 : H) => K.letK (fun (t20 : AV) (h21 : H) => K.letK (fun (t23 : AV) (h24 : H) => K.letK (fun (t26 : AV) (h27 : H) => K.pickK t16 t26 (.bool false) fun t29 =>
K.unmarkK [] h27 fun h30 => .ok (.tup [t14, t29, (.bool true)]) h30) fun j28 =>
K.guK true t16 (K.eqK (K.binV ctx .eql 57 false t17 t23) t17 t23 fun t31 =>
j28 t31 h24) (j28 (.tup []) h24)) fun j25 =>
K.guK true t16 (K.callFK run 54 [t20] h21 fun t32 h33 =>
j25 t32 h33) (j25 (.tup []) h21)) fun j22 =>
K.guK true t16 (j22 t8 h18) (j22 (.tup []) h18)) fun j19 =>
K.guK true t16 (j19 t7 h13) (j19 (.tup []) h13)))
noncomputable def r59 : K.KRun → List AV → H → K.KR := fun run args h => K.uncons args fun t0 l1 => K.uncons l1 fun t2 l3 => K.unnil l3 (
K.ldK ctx 48 t2 h fun t4 =>
K.lenVK t4 fun t5 =>
K.loopV (nat_lit 1000000) (fun s9 l6 m7 h8 => K.uncons l6 fun t10 l11 => K.uncons l11 fun t12 l13 => K.uncons l13 fun t14 l15 => K.uncons l15 fun t16 l17 => K.unnil l17 (
K.ltK (K.binV ctx .lss 3 false t16 t14) t16 t14 fun t18 =>
K.iteV t18 (
K.ldK ctx 48 t12 h8 fun t19 =>
K.idxSK 6 t19 t16 fun t20 =>
K.fldK 2 t20 fun t21 =>
K.fldK 0 t21 fun t22 =>
K.ldK ctx 4 t22 h8 fun t23 =>
K.letK (fun (t24 : AV) (h25 : H) => K.letK (fun (t27 : AV) (h28 : H) => K.letK (fun (t30 : AV) (h31 : H) => K.letK (fun (t33 : AV) (h34 : H) => K.letK (fun (t36 : AV) (h37 : H) => K.letK (fun (t39 : AV) (h40 : H) => K.pickK t23 t39 (.bool false) fun t42 =>
K.iteV t42 (
K.unmarkK m7 h40 fun h43 => .ok (.tup []) h43) (
K.addK (K.binV ctx .add 3 true t16 (.int .i64 (.ofNat 1))) t16 (.int .i64 (.ofNat 1)) fun t44 =>
s9 [t10, t12, t14, t44] m7 h40)) fun j41 =>
K.guK true t23 (K.notK t36 fun t45 =>
j41 t45 h37) (j41 (.tup []) h37)) fun j38 =>
K.guK true t23 (K.callVK run t24 [t33] h34 fun t46 h47 =>
j38 t46 h47) (j38 (.tup []) h34)) fun j35 =>
K.guK true t23 (K.idxSK 6 t27 t30 fun t48 =>
j35 t48 h31) (j35 (.tup []) h31)) fun j32 =>
K.guK true t23 (j32 t16 h28) (j32 (.tup []) h28)) fun j29 =>
K.guK true t23 (K.ldK ctx 48 t12 h25 fun t49 =>
j29 t49 h25) (j29 (.tup []) h25)) fun j26 =>
K.guK true t23 (j26 t10 h8) (j26 (.tup []) h8)) (
K.unmarkK m7 h8 fun h50 => .ok (.tup []) h50))) [t0, t2, t5, (.int .i64 (.ofNat 0))] [] h)
noncomputable def r60 : K.KRun → List AV → H → K.KR := fun run args h => K.uncons args fun t0 l1 => K.uncons l1 fun t2 l3 => K.unnil l3 (
K.boxK t0 h fun t4 h5 =>
K.ldsK ctx 23 3 t4 h5 fun t6 =>
K.callFK run 19 [t6] h5 fun t7 h8 =>
K.notK t7 fun t9 =>
K.letK (fun (t10 : AV) (h11 : H) => K.letK (fun (t13 : AV) (h14 : H) => K.pickK t9 (.bool true) t13 fun t16 =>
K.iteV t16 (
K.unmarkK [] h14 fun h17 => .ok (.tup [(.int .u8 (.ofNat 0)), (.int .i64 (.ofNat 0)), (.int .i64 (.ofNat 0)), (.int .i64 (.ofNat 0))]) h17) (
K.letK (fun (l18 : List AV) (m19 : List Nat) (h20 : H) => K.unnil l18 (
K.unmarkK m19 h20 fun h22 => .ok (.tup [(.int .u8 (.ofNat 0)), (.int .i64 (.ofNat 0)), (.int .i64 (.ofNat 0)), (.int .i64 (.ofNat 0))]) h22)) fun j21 =>
K.ldsK ctx 23 3 t4 h14 fun t23 =>
K.callFK run 39 [t23] h14 fun t24 h25 =>
K.loopV (nat_lit 1000000) (fun s29 l26 m27 h28 => K.uncons l26 fun t30 l31 => K.uncons l31 fun t32 l33 => K.uncons l33 fun t34 l35 => K.unnil l35 (
K.ltK (K.binV ctx .lss 3 true t34 (.int .i64 (.ofNat 7))) t34 (.int .i64 (.ofNat 7)) fun t36 =>
K.iteV t36 (
K.idxK ctx 89 3 7 t32 t34 fun t37 =>
K.allocK (K.zN ctx 89) (K.zT ctx 89) h28 fun t38 h39 =>
K.stsK 3 t38 t37 h39 fun h40 =>
K.fldK 1 t38 fun t41 =>
K.ldK ctx 3 t41 h40 fun t42 =>
K.fldK 2 t38 fun t43 =>
K.ldK ctx 3 t43 h40 fun t44 =>
K.mulK (K.binV ctx .mul 3 false t42 t44) t42 t44 fun t45 =>
K.geK (K.binV ctx .geq 3 false t30 t45) t30 t45 fun t46 =>
K.iteV t46 (
K.subK (K.binV ctx .sub 3 false t30 t45) t30 t45 fun t47 =>
K.addK (K.binV ctx .add 3 true t34 (.int .i64 (.ofNat 1))) t34 (.int .i64 (.ofNat 1)) fun t48 =>
s29 [t47, t32, t48] m27 h40) (
K.fldK 1 t38 fun t49 =>
K.ldK ctx 3 t49 h40 fun t50 =>
K.oK (K.binV ctx .quo 3 false t30 t50) fun t51 =>
K.fldK 1 t38 fun t52 =>
K.ldK ctx 3 t52 h40 fun t53 =>
K.oK (K.binV ctx .rem 3 false t30 t53) fun t54 =>
K.fldK 0 t38 fun t55 =>
K.ldK ctx 87 t55 h40 fun t56 =>
K.eqK (K.binV ctx .eql 87 true t56 (.int .u8 (.ofNat 2))) t56 (.int .u8 (.ofNat 2)) fun t57 =>
K.iteV t57 (
K.callFK run 68 [t51, t54] h40 fun t58 h59 =>
K.extK t58 0 fun t60 =>
K.extK t58 1 fun t61 =>
K.extK t58 2 fun t62 =>
K.extK t58 3 fun t63 =>
K.unmarkK m27 h59 fun h64 => .ok (.tup [t60, t61, t62, t63]) h64) (
K.fldK 0 t38 fun t65 =>
K.ldK ctx 87 t65 h40 fun t66 =>
K.unmarkK m27 h40 fun h67 => .ok (.tup [t66, t51, (.int .i64 (.ofNat 0)), t54]) h67))) (
j21 [] m27 h28))) [t2, t24, (.int .i64 (.ofNat 0))] [] h25)) fun j15 =>
K.guK false t9 (K.ltK (K.binV ctx .lss 3 true t10 (.int .i64 (.ofNat 0))) t10 (.int .i64 (.ofNat 0)) fun t68 =>
j15 t68 h11) (j15 (.tup []) h11)) fun j12 =>
K.guK false t9 (j12 t2 h8) (j12 (.tup []) h8))
noncomputable def r61 : K.KRun → List AV → H → K.KR := fun run args h => K.uncons args fun t0 l1 => K.unnil l1 (
K.letK (fun (l2 : List AV) (m3 : List Nat) (h4 : H) => K.uncons l2 fun t6 l7 => K.unnil l7 (
K.iteV t6 (
K.unmarkK m3 h4 fun h8 => .ok (.bool false) h8) (
K.unmarkK m3 h4 fun h9 => .ok (.bool true) h9))) fun j5 =>
K.eqK (K.binV ctx .eql 87 true t0 (.int .u8 (.ofNat 0))) t0 (.int .u8 (.ofNat 0)) fun t10 =>
K.iteV t10 (
j5 [t10] [] h) (
K.eqK (K.binV ctx .eql 87 true t0 (.int .u8 (.ofNat 1))) t0 (.int .u8 (.ofNat 1)) fun t11 =>
K.iteV t11 (
j5 [t11] [] h) (
K.eqK (K.binV ctx .eql 87 true t0 (.int .u8 (.ofNat 5))) t0 (.int .u8 (.ofNat 5)) fun t12 =>
j5 [t12] [] h)))
noncomputable def r62 : K.KRun → List AV → H → K.KR := fun run args h => K.uncons args fun t0 l1 => K.uncons l1 fun t2 l3 => K.unnil l3 (
K.ldK ctx 42 t2 h fun t4 =>
K.appK ctx 57 1 t4 t0 h fun t5 h6 =>
K.stK t2 t5 h6 fun h7 =>
K.unmarkK [] h7 fun h8 => .ok (.tup []) h8)
noncomputable def r63 : K.KRun → List AV → H → K.KR := fun run args h => K.uncons args fun t0 l1 => K.unnil l1 (
K.callFK run 69 [] h fun t2 h3 =>
K.allocK (K.zN ctx 101) (K.zT ctx 101) h3 fun t4 h5 =>
K.stK t4 (.func (.func 70) [t2] []) h5 fun h6 =>
K.letK (fun (l7 : List AV) (m8 : List Nat) (h9 : H) => K.uncons l7 fun t11 l12 => K.unnil l12 (
K.callFK run 72 [t11] h9 fun t13 h14 =>
K.unmarkK m8 h14 fun h15 => .ok t13 h15)) fun j10 =>
K.callFK run 71 [t0] h6 fun t16 h17 =>
K.hNew h17 .marks fun r18 h19 => K.hNew h19 (.loop .ready none (K.mkT [3, 4, 10] [t2, t4, t16]) 5 r18) fun n20 h21 =>
K.rngK ctx run t16 n20 h21 (fun h23 => j10 [t2] (r18 :: []) h23) (fun h24 => K.unmarkK (r18 :: []) h24 fun h27 => .bad) fun i22 h25 => (Bool.rec (motive := fun _ => K.KR) (.bad) (j10 [t2] (r18 :: []) h25) (Nat.beq i22 0)))
noncomputable def r64 : K.KRun → List AV → H → K.KR := fun run args h => K.uncons args fun t0 l1 => K.uncons l1 fun t2 l3 => K.uncons l3 fun t4 l5 => K.unnil l5 (
K.boxK t0 h fun t6 h7 =>
K.lenVK t4 fun t8 =>
K.loopV (nat_lit 1000000) (fun s12 l9 m10 h11 => K.uncons l9 fun t13 l14 => K.uncons l14 fun t15 l16 => K.uncons l16 fun t17 l18 => K.uncons l18 fun t19 l20 => K.uncons l20 fun t21 l22 => K.unnil l22 (
K.ltK (K.binV ctx .lss 3 false t21 t19) t21 t19 fun t23 =>
K.iteV t23 (
K.idxSK 2 t17 t21 fun t24 =>
K.ldsK ctx 67 2 t24 h11 fun t25 =>
K.allocK (K.zN ctx 67) (K.zT ctx 67) h11 fun t26 h27 =>
K.stsK 2 t26 t25 h27 fun h28 =>
K.ldK ctx 44 t15 h28 fun t29 =>
K.callFK run 73 [t29, t13, (.func (.func 74) [] [t15, t26])] h28 fun t30 h31 =>
K.addK (K.binV ctx .add 3 true t21 (.int .i64 (.ofNat 1))) t21 (.int .i64 (.ofNat 1)) fun t32 =>
s12 [t13, t15, t17, t19, t32] m10 h31) (
K.unmarkK m10 h11 fun h33 => .ok (.tup []) h33))) [t2, t6, t4, t8, (.int .i64 (.ofNat 0))] [] h7)
noncomputable def r65 : K.KRun → List AV → H → K.KR := fun run args h => K.uncons args fun t0 l1 => K.uncons l1 fun t2 l3 => K.uncons l3 fun t4 l5 => K.unnil l5 (
K.boxK t0 h fun t6 h7 =>
K.letK (fun (l8 : List AV) (m9 : List Nat) (h10 : H) => K.uncons l8 fun t12 l13 => K.uncons l13 fun t14 l15 => K.uncons l15 fun t16 l17 => K.unnil l17 (
K.callFK run 75 [t16] h10 fun t18 h19 =>
K.letK (fun (l20 : List AV) (m21 : List Nat) (h22 : H) => K.uncons l20 fun t24 l25 => K.uncons l25 fun t26 l27 => K.unnil l27 (
K.ldK ctx 44 t26 h22 fun t28 =>
K.ldK ctx 44 t26 h22 fun t29 =>
K.nilK t29 fun t30 =>
K.fldK 0 t30 fun t31 =>
K.ldK ctx 31 t31 h22 fun t32 =>
K.callFK run 73 [t28, t24, (.func (.func 27) [t32] [])] h22 fun t33 h34 =>
K.unmarkK m21 h34 fun h35 => .ok (.tup []) h35)) fun j23 =>
K.callFK run 76 [t16] h19 fun t36 h37 =>
K.lenVK t36 fun t38 =>
K.loopV (nat_lit 1000000) (fun s42 l39 m40 h41 => K.uncons l39 fun t43 l44 => K.uncons l44 fun t45 l46 => K.uncons l46 fun t47 l48 => K.uncons l48 fun t49 l50 => K.uncons l50 fun t51 l52 => K.unnil l52 (
K.ltK (K.binV ctx .lss 3 false t51 t49) t51 t49 fun t53 =>
K.iteV t53 (
K.idxSK 1 t47 t51 fun t54 =>
K.ldK ctx 3 t54 h41 fun t55 =>
K.allocK (K.zN ctx 3) (K.zT ctx 3) h41 fun t56 h57 =>
K.stK t56 t55 h57 fun h58 =>
K.ldK ctx 44 t45 h58 fun t59 =>
K.callFK run 73 [t59, t43, (.func (.func 77) [] [t45, t56])] h58 fun t60 h61 =>
K.addK (K.binV ctx .add 3 true t51 (.int .i64 (.ofNat 1))) t51 (.int .i64 (.ofNat 1)) fun t62 =>
s42 [t43, t45, t47, t49, t62] m40 h61) (
j23 [t43, t45] m40 h41))) [t12, t14, t36, t38, (.int .i64 (.ofNat 0))] m9 h37)) fun j11 =>
K.lenVK t4 fun t63 =>
K.loopV (nat_lit 1000000) (fun s67 l64 m65 h66 => K.uncons l64 fun t68 l69 => K.uncons l69 fun t70 l71 => K.uncons l71 fun t72 l73 => K.uncons l73 fun t74 l75 => K.uncons l75 fun t76 l77 => K.uncons l77 fun t78 l79 => K.unnil l79 (
K.ltK (K.binV ctx .lss 3 false t78 t76) t78 t76 fun t80 =>
K.iteV t80 (
K.idxSK 2 t74 t78 fun t81 =>
K.ldsK ctx 67 2 t81 h66 fun t82 =>
K.allocK (K.zN ctx 67) (K.zT ctx 67) h66 fun t83 h84 =>
K.stsK 2 t83 t82 h84 fun h85 =>
K.fldK 0 t83 fun t86 =>
K.ldK ctx 3 t86 h85 fun t87 =>
K.oK (K.binV ctx .quo 3 true t87 (.int .i64 (.ofNat 8))) fun t88 =>
K.bslK ctx 3 1 1 [(0, t88)] h85 fun t89 h90 =>
K.appK ctx 3 1 t72 t89 h90 fun t91 h92 =>
K.addK (K.binV ctx .add 3 true t78 (.int .i64 (.ofNat 1))) t78 (.int .i64 (.ofNat 1)) fun t93 =>
s67 [t68, t70, t91, t74, t76, t93] m65 h92) (
j11 [t68, t70, t72] m65 h66))) [t2, t6, .nilSlice, t4, t63, (.int .i64 (.ofNat 0))] [] h7)
noncomputable def r66 : K.KRun → List AV → H → K.KR := fun run args h => K.uncons args fun t0 l1 => K.unnil l1 (
K.lenVK t0 fun t2 =>
K.eqK (K.binV ctx .eql 3 true t2 (.int .i64 (.ofNat 0))) t2 (.int .i64 (.ofNat 0)) fun t3 =>
K.letK (fun (t4 : AV) (h5 : H) => K.letK (fun (t7 : AV) (h8 : H) => K.letK (fun (t10 : AV) (h11 : H) => K.letK (fun (t13 : AV) (h14 : H) => K.pickK t3 (.bool true) t13 fun t16 =>
K.iteV t16 (
K.unmarkK [] h14 fun h17 => .ok (.tup [.nilSlice, (.int .u64 (.ofNat 0)), (.bool false)]) h17) (
K.idxSK 1 t0 (.int .i64 (.ofNat 0)) fun t18 =>
K.ldK ctx 57 t18 h14 fun t19 =>
K.rK (convA ctx 57 3 t19 h14) fun t20 h21 =>
K.mulK (K.binV ctx .mul 3 true (.int .i64 (.ofNat 2)) t20) (.int .i64 (.ofNat 2)) t20 fun t22 =>
K.addK (K.binV ctx .add 3 true (.int .i64 (.ofNat 1)) t22) (.int .i64 (.ofNat 1)) t22 fun t23 =>
K.lenVK t0 fun t24 =>
K.leK (K.binV ctx .leq 3 false t24 t23) t24 t23 fun t25 =>
K.iteV t25 (
K.unmarkK [] h21 fun h26 => .ok (.tup [.nilSlice, (.int .u64 (.ofNat 0)), (.bool false)]) h26) (
K.slcK ctx 42 t0 none (some t23) none h21 fun t27 =>
K.idxSK 1 t0 t23 fun t28 =>
K.ldK ctx 57 t28 h21 fun t29 =>
K.unmarkK [] h21 fun h30 => .ok (.tup [t27, t29, (.bool true)]) h30))) fun j15 =>
K.guK false t3 (K.gtK (K.binV ctx .gtr 57 true t10 (.int .u64 (.ofNat 96))) t10 (.int .u64 (.ofNat 96)) fun t31 =>
j15 t31 h11) (j15 (.tup []) h11)) fun j12 =>
K.guK false t3 (K.ldK ctx 57 t7 h8 fun t32 =>
j12 t32 h8) (j12 (.tup []) h8)) fun j9 =>
K.guK false t3 (K.idxSK 1 t4 (.int .i64 (.ofNat 0)) fun t33 =>
j9 t33 h5) (j9 (.tup []) h5)) fun j6 =>
K.guK false t3 (j6 t0 h) (j6 (.tup []) h))
noncomputable def r67 : K.KRun → List AV → H → K.KR := fun run args h => K.uncons args fun t0 l1 => K.uncons l1 fun t2 l3 => K.unnil l3 (
K.boxK t0 h fun t4 h5 =>
K.callFK run 66 [t2] h5 fun t6 h7 =>
K.extK t6 0 fun t8 =>
K.extK t6 1 fun t9 =>
K.extK t6 2 fun t10 =>
K.notK t10 fun t11 =>
K.letK (fun (t12 : AV) (h13 : H) => K.letK (fun (t15 : AV) (h16 : H) => K.letK (fun (t18 : AV) (h19 : H) => K.letK (fun (t21 : AV) (h22 : H) => K.pickK t11 (.bool true) t21 fun t24 =>
K.iteV t24 (
K.unmarkK [] h22 fun h25 => .ok (.tup [.nilSlice, (.int .i64 (.ofNat 4))]) h25) (
K.letK (fun (l26 : List AV) (m27 : List Nat) (h28 : H) => K.uncons l26 fun t30 l31 => K.uncons l31 fun t32 l33 => K.unnil l33 (
K.ldsK ctx 23 3 t30 h28 fun t34 =>
K.callFK run 50 [t34, t32] h28 fun t35 h36 =>
K.notK t35 fun t37 =>
K.iteV t37 (
K.unmarkK m27 h36 fun h38 => .ok (.tup [.nilSlice, (.int .i64 (.ofNat 4))]) h38) (
K.unmarkK m27 h36 fun h39 => .ok (.tup [t32, (.int .i64 (.ofNat 0))]) h39))) fun j29 =>
K.loopV (nat_lit 1000000) (fun s43 l40 m41 h42 => K.uncons l40 fun t44 l45 => K.uncons l45 fun t46 l47 => K.uncons l47 fun t48 l49 => K.uncons l49 fun t50 l51 => K.unnil l51 (
K.lenVK t48 fun t52 =>
K.ltK (K.binV ctx .lss 3 false t50 t52) t50 t52 fun t53 =>
K.iteV t53 (
K.idxSK 1 t48 t50 fun t54 =>
K.ldK ctx 57 t54 h42 fun t55 =>
K.geK (K.binV ctx .geq 57 true t55 (.int .u64 (.ofNat 65536))) t55 (.int .u64 (.ofNat 65536)) fun t56 =>
K.iteV t56 (
K.unmarkK m41 h42 fun h57 => .ok (.tup [.nilSlice, (.int .i64 (.ofNat 4))]) h57) (
K.idxSK 1 t48 t50 fun t58 =>
K.ldK ctx 57 t58 h42 fun t59 =>
K.rK (convA ctx 57 3 t59 h42) fun t60 h61 =>
K.addK (K.binV ctx .add 3 true t50 (.int .i64 (.ofNat 1))) t50 (.int .i64 (.ofNat 1)) fun t62 =>
K.idxSK 1 t48 t62 fun t63 =>
K.ldK ctx 57 t63 h61 fun t64 =>
K.bldSK ctx 67 [(0, t60), (1, t64)] fun t65 =>
K.bslK ctx 67 2 1 [(0, t65)] h61 fun t66 h67 =>
K.appK ctx 67 2 t46 t66 h67 fun t68 h69 =>
K.addK (K.binV ctx .add 3 true t50 (.int .i64 (.ofNat 2))) t50 (.int .i64 (.ofNat 2)) fun t70 =>
s43 [t44, t68, t48, t70] m41 h69)) (
j29 [t44, t46] m41 h42))) [t4, .nilSlice, t8, (.int .i64 (.ofNat 1))] [] h22)) fun j23 =>
K.guK false t11 (K.neK (K.binV ctx .neq 57 false t15 t18) t15 t18 fun t71 =>
j23 t71 h19) (j23 (.tup []) h19)) fun j20 =>
K.guK false t11 (j20 t9 h16) (j20 (.tup []) h16)) fun j17 =>
K.guK false t11 (K.callFK run 63 [t12] h13 fun t72 h73 =>
j17 t72 h73) (j17 (.tup []) h13)) fun j14 =>
K.guK false t11 (j14 t8 h7) (j14 (.tup []) h7))
noncomputable def r69 : K.KRun → List AV → H → K.KR := fun run args h => K.unnil args (
K.bldSK ctx 137 [(0, (.int .u64 (.ofNat 14695981039346656037)))] fun t0 =>
K.boxK t0 h fun t1 h2 =>
K.unmarkK [] h2 fun h3 => .ok t1 h3)
noncomputable def r70 : K.KRun → List AV → H → K.KR := fun run args h => K.uncons args fun t0 l1 => K.uncons l1 fun t2 l3 => K.unnil l3 (
K.neK (K.binV ctx .neq 126 true t0 .nilPtr) t0 .nilPtr fun t4 =>
K.iteV t4 (
K.nilK t0 fun t5 =>
K.fldK 0 t5 fun t6 =>
K.ldK ctx 57 t6 h fun t7 =>
K.oK (K.binV ctx .xor 57 false t7 t2) fun t8 =>
K.mulK (K.binV ctx .mul 57 true t8 (.int .u64 (.ofNat 1099511628211))) t8 (.int .u64 (.ofNat 1099511628211)) fun t9 =>
K.nilK t0 fun t10 =>
K.fldK 0 t10 fun t11 =>
K.stK t11 t9 h fun h12 =>
K.unmarkK [] h12 fun h13 => .ok (.tup []) h13) (
K.unmarkK [] h fun h14 => .ok (.tup []) h14))
noncomputable def r71 : K.KRun → List AV → H → K.KR := fun run args h => K.uncons args fun t0 l1 => K.unnil l1 (
K.boxK t0 h fun t2 h3 =>
K.unmarkK [] h3 fun h4 => .ok (.func (.func 78) [] [t2]) h4)
noncomputable def r72 : K.KRun → List AV → H → K.KR := fun run args h => K.uncons args fun t0 l1 => K.unnil l1 (
K.eqK (K.binV ctx .eql 126 true t0 .nilPtr) t0 .nilPtr fun t2 =>
K.iteV t2 (
K.unmarkK [] h fun h3 => .ok (.int .u64 (.ofNat 0)) h3) (
K.nilK t0 fun t4 =>
K.fldK 0 t4 fun t5 =>
K.ldK ctx 57 t5 h fun t6 =>
K.unmarkK [] h fun h7 => .ok t6 h7))
noncomputable def r73 : K.KRun → List AV → H → K.KR := fun run args h => K.uncons args fun t0 l1 => K.uncons l1 fun t2 l3 => K.uncons l3 fun t4 l5 => K.unnil l5 (
K.nilK t0 fun t6 =>
K.fldK 5 t6 fun t7 =>
K.ldK ctx 81 t7 h fun t8 =>
K.bldSK ctx 85 [(0, t2), (1, t4)] fun t9 =>
K.bslK ctx 85 2 1 [(0, t9)] h fun t10 h11 =>
K.appK ctx 85 2 t8 t10 h11 fun t12 h13 =>
K.nilK t0 fun t14 =>
K.fldK 5 t14 fun t15 =>
K.stK t15 t12 h13 fun h16 =>
K.unmarkK [] h16 fun h17 => .ok (.tup []) h17)
noncomputable def r74 : K.KRun → List AV → H → K.KR := fun run args h => K.uncons args fun t0 l1 => K.uncons l1 fun t2 l3 => K.unnil l3 (
K.ldK ctx 44 t0 h fun t4 =>
K.nilK t4 fun t5 =>
K.fldK 0 t5 fun t6 =>
K.ldK ctx 31 t6 h fun t7 =>
K.fldK 0 t2 fun t8 =>
K.ldK ctx 3 t8 h fun t9 =>
K.fldK 1 t2 fun t10 =>
K.ldK ctx 57 t10 h fun t11 =>
K.callFK run 24 [t7, t9, t11] h fun t12 h13 =>
K.unmarkK [] h13 fun h14 => .ok t12 h14)
noncomputable def r75 : K.KRun → List AV → H → K.KR := fun run args h => K.uncons args fun t0 l1 => K.unnil l1 (
K.lenVK t0 fun t2 =>
K.rK (convA ctx 3 122 t2 h) fun t3 h4 =>
K.callFK run 80 [t3] h4 fun t5 h6 =>
K.callFK run 79 [t0, (.int .i64 (.ofNat 0)), t2, t5] h6 fun t7 h8 =>
K.unmarkK [] h8 fun h9 => .ok (.tup []) h9)
noncomputable def r76 : K.KRun → List AV → H → K.KR := fun run args h => K.uncons args fun t0 l1 => K.unnil l1 (
K.lenVK t0 fun t2 =>
K.ltK (K.binV ctx .lss 3 true t2 (.int .i64 (.ofNat 2))) t2 (.int .i64 (.ofNat 2)) fun t3 =>
K.iteV t3 (
K.unmarkK [] h fun h4 => .ok t0 h4) (
K.letK (fun (l5 : List AV) (m6 : List Nat) (h7 : H) => K.uncons l5 fun t9 l10 => K.unnil l10 (
K.unmarkK m6 h7 fun h11 => .ok t9 h11)) fun j8 =>
K.loopV (nat_lit 1000000) (fun s15 l12 m13 h14 => K.uncons l12 fun t16 l17 => K.uncons l17 fun t18 l19 => K.unnil l19 (
K.lenVK t16 fun t20 =>
K.ltK (K.binV ctx .lss 3 false t18 t20) t18 t20 fun t21 =>
K.iteV t21 (
K.letK (fun (l22 : List AV) (m23 : List Nat) (h24 : H) => K.uncons l22 fun t26 l27 => K.uncons l27 fun t28 l29 => K.unnil l29 (
K.addK (K.binV ctx .add 3 true t28 (.int .i64 (.ofNat 1))) t28 (.int .i64 (.ofNat 1)) fun t30 =>
s15 [t26, t30] m23 h24)) fun j25 =>
K.idxSK 1 t16 t18 fun t31 =>
K.ldK ctx 3 t31 h14 fun t32 =>
K.subK (K.binV ctx .sub 3 true t18 (.int .i64 (.ofNat 1))) t18 (.int .i64 (.ofNat 1)) fun t33 =>
K.idxSK 1 t16 t33 fun t34 =>
K.ldK ctx 3 t34 h14 fun t35 =>
K.eqK (K.binV ctx .eql 3 false t32 t35) t32 t35 fun t36 =>
K.iteV t36 (
K.slcK ctx 133 t16 (some t18) none none h14 fun t37 =>
K.letK (fun (l38 : List AV) (m39 : List Nat) (h40 : H) => K.uncons l38 fun t42 l43 => K.uncons l43 fun t44 l45 => K.unnil l45 (
K.slcK ctx 133 t42 (some t44) none none h40 fun t46 =>
K.slowK ctx run (K.opAt Go.Proofs.Try.f76 14 3) [56] [t46] h40 fun t47 h48 =>
K.slcK ctx 133 t42 none (some t44) none h48 fun t49 =>
K.unmarkK m39 h48 fun h50 => .ok t49 h50)) fun j41 =>
K.loopV (nat_lit 1000000) (fun s54 l51 m52 h53 => K.uncons l51 fun t55 l56 => K.uncons l56 fun t57 l58 => K.uncons l58 fun t59 l60 => K.uncons l60 fun t61 l62 => K.unnil l62 (
K.lenVK t59 fun t63 =>
K.ltK (K.binV ctx .lss 3 false t61 t63) t61 t63 fun t64 =>
K.iteV t64 (
K.letK (fun (l65 : List AV) (m66 : List Nat) (h67 : H) => K.uncons l65 fun t69 l70 => K.uncons l70 fun t71 l72 => K.uncons l72 fun t73 l74 => K.uncons l74 fun t75 l76 => K.unnil l76 (
K.addK (K.binV ctx .add 3 true t75 (.int .i64 (.ofNat 1))) t75 (.int .i64 (.ofNat 1)) fun t77 =>
s54 [t69, t71, t73, t77] m66 h67)) fun j68 =>
K.idxSK 1 t59 t61 fun t78 =>
K.ldK ctx 3 t78 h53 fun t79 =>
K.subK (K.binV ctx .sub 3 true t61 (.int .i64 (.ofNat 1))) t61 (.int .i64 (.ofNat 1)) fun t80 =>
K.idxSK 1 t59 t80 fun t81 =>
K.ldK ctx 3 t81 h53 fun t82 =>
K.neK (K.binV ctx .neq 3 false t79 t82) t79 t82 fun t83 =>
K.iteV t83 (
K.idxSK 1 t59 t61 fun t84 =>
K.ldK ctx 3 t84 h53 fun t85 =>
K.idxSK 1 t55 t57 fun t86 =>
K.stK t86 t85 h53 fun h87 =>
K.addK (K.binV ctx .add 3 true t57 (.int .i64 (.ofNat 1))) t57 (.int .i64 (.ofNat 1)) fun t88 =>
j68 [t55, t88, t59, t61] m52 h87) (
j68 [t55, t57, t59, t61] m52 h53)) (
j41 [t55, t57] m52 h53))) [t16, t18, t37, (.int .i64 (.ofNat 1))] m13 h14) (
j25 [t16, t18] m13 h14)) (
j8 [t16] m13 h14))) [t0, (.int .i64 (.ofNat 1))] [] h))
noncomputable def r77 : K.KRun → List AV → H → K.KR := fun run args h => K.uncons args fun t0 l1 => K.uncons l1 fun t2 l3 => K.unnil l3 (
K.ldK ctx 44 t0 h fun t4 =>
K.nilK t4 fun t5 =>
K.fldK 0 t5 fun t6 =>
K.ldK ctx 31 t6 h fun t7 =>
K.ldK ctx 3 t2 h fun t8 =>
K.callFK run 26 [t7, t8] h fun t9 h10 =>
K.unmarkK [] h10 fun h11 => .ok t9 h11)
noncomputable def r78 : K.KRun → List AV → H → K.KR := fun run args h => K.uncons args fun t0 l1 => K.uncons l1 fun t2 l3 => K.unnil l3 (
K.ldK ctx 42 t2 h fun t4 =>
K.lenVK t4 fun t5 =>
K.loopV (nat_lit 1000000) (fun s9 l6 m7 h8 => K.uncons l6 fun t10 l11 => K.uncons l11 fun t12 l13 => K.uncons l13 fun t14 l15 => K.uncons l15 fun t16 l17 => K.unnil l17 (
K.ltK (K.binV ctx .lss 3 false t16 t14) t16 t14 fun t18 =>
K.iteV t18 (
K.idxSK 1 t12 t16 fun t19 =>
K.ldK ctx 57 t19 h8 fun t20 =>
K.callVK run t10 [t20] h8 fun t21 h22 =>
K.notK t21 fun t23 =>
K.iteV t23 (
K.unmarkK m7 h22 fun h24 => .ok (.tup []) h24) (
K.addK (K.binV ctx .add 3 true t16 (.int .i64 (.ofNat 1))) t16 (.int .i64 (.ofNat 1)) fun t25 =>
s9 [t10, t12, t14, t25] m7 h22)) (
K.unmarkK m7 h8 fun h26 => .ok (.tup []) h26))) [t0, t4, t5, (.int .i64 (.ofNat 0))] [] h)
noncomputable def r79 : K.KRun → List AV → H → K.KR := fun run args h => K.uncons args fun t0 l1 => K.uncons l1 fun t2 l3 => K.uncons l3 fun t4 l5 => K.uncons l5 fun t6 l7 => K.unnil l7 (
K.loopV (nat_lit 1000000) (fun s11 l8 m9 h10 => K.uncons l8 fun t12 l13 => K.uncons l13 fun t14 l15 => K.uncons l15 fun t16 l17 => K.uncons l17 fun t18 l19 => K.uncons l19 fun t20 l21 => K.uncons l21 fun t22 l23 => K.unnil l23 (
K.subK (K.binV ctx .sub 3 false t16 t14) t16 t14 fun t24 =>
K.leK (K.binV ctx .leq 3 true t24 (.int .i64 (.ofNat 12))) t24 (.int .i64 (.ofNat 12)) fun t25 =>
K.iteV t25 (
K.callFK run 81 [t12, t14, t16] h10 fun t26 h27 =>
K.unmarkK m9 h27 fun h28 => .ok (.tup []) h28) (
K.eqK (K.binV ctx .eql 3 true t18 (.int .i64 (.ofNat 0))) t18 (.int .i64 (.ofNat 0)) fun t29 =>
K.iteV t29 (
K.callFK run 82 [t12, t14, t16] h10 fun t30 h31 =>
K.unmarkK m9 h31 fun h32 => .ok (.tup []) h32) (
K.letK (fun (l33 : List AV) (m34 : List Nat) (h35 : H) => K.uncons l33 fun t37 l38 => K.uncons l38 fun t39 l40 => K.uncons l40 fun t41 l42 => K.uncons l42 fun t43 l44 => K.uncons l44 fun t45 l46 => K.uncons l46 fun t47 l48 => K.uncons l48 fun t49 l50 => K.unnil l50 (
K.callFK run 84 [t37, t39, t41] h35 fun t51 h52 =>
K.extK t51 0 fun t53 =>
K.extK t51 1 fun t54 =>
K.letK (fun (l55 : List AV) (m56 : List Nat) (h57 : H) => K.uncons l55 fun t59 l60 => K.uncons l60 fun t61 l62 => K.uncons l62 fun t63 l64 => K.uncons l64 fun t65 l66 => K.uncons l66 fun t67 l68 => K.uncons l68 fun t69 l70 => K.uncons l70 fun t71 l72 => K.uncons l72 fun t73 l74 => K.uncons l74 fun t75 l76 => K.unnil l76 (
K.letK (fun (l77 : List AV) (m78 : List Nat) (h79 : H) => K.uncons l77 fun t81 l82 => K.uncons l82 fun t83 l84 => K.uncons l84 fun t85 l86 => K.uncons l86 fun t87 l88 => K.uncons l88 fun t89 l90 => K.uncons l90 fun t91 l92 => K.uncons l92 fun t93 l94 => K.uncons l94 fun t95 l96 => K.unnil l96 (
K.gtK (K.binV ctx .gtr 3 true t83 (.int .i64 (.ofNat 0))) t83 (.int .i64 (.ofNat 0)) fun t97 =>
K.letK (fun (t98 : AV) (h99 : H) => K.letK (fun (t101 : AV) (h102 : H) => K.letK (fun (t104 : AV) (h105 : H) => K.letK (fun (t107 : AV) (h108 : H) => K.letK (fun (t110 : AV) (h111 : H) => K.letK (fun (t113 : AV) (h114 : H) => K.letK (fun (t116 : AV) (h117 : H) => K.letK (fun (t119 : AV) (h120 : H) => K.letK (fun (t122 : AV) (h123 : H) => K.letK (fun (t125 : AV) (h126 : H) => K.letK (fun (t128 : AV) (h129 : H) => K.pickK t97 t128 (.bool false) fun t131 =>
K.iteV t131 (
K.callFK run 88 [t81, t83, t85, t95] h129 fun t132 h133 =>
s11 [t81, t132, t85, t87, t89, t91] m78 h133) (
K.callFK run 89 [t81, t83, t85, t95] h129 fun t134 h135 =>
K.extK t134 0 fun t136 =>
K.extK t134 1 fun t137 =>
K.subK (K.binV ctx .sub 3 false t136 t83) t136 t83 fun t138 =>
K.subK (K.binV ctx .sub 3 false t85 t136) t85 t136 fun t139 =>
K.oK (K.binV ctx .quo 3 true t93 (.int .i64 (.ofNat 8))) fun t140 =>
K.ltK (K.binV ctx .lss 3 false t138 t139) t138 t139 fun t141 =>
K.iteV t141 (
K.geK (K.binV ctx .geq 3 false t138 t140) t138 t140 fun t142 =>
K.callFK run 79 [t81, t83, t136, t87] h135 fun t143 h144 =>
K.addK (K.binV ctx .add 3 true t136 (.int .i64 (.ofNat 1))) t136 (.int .i64 (.ofNat 1)) fun t145 =>
s11 [t81, t145, t85, t87, t142, t137] m78 h144) (
K.geK (K.binV ctx .geq 3 false t139 t140) t139 t140 fun t146 =>
K.addK (K.binV ctx .add 3 true t136 (.int .i64 (.ofNat 1))) t136 (.int .i64 (.ofNat 1)) fun t147 =>
K.callFK run 79 [t81, t147, t85, t87] h135 fun t148 h149 =>
s11 [t81, t83, t136, t87, t146, t137] m78 h149))) fun j130 =>
K.guK true t97 (K.notK t125 fun t150 =>
j130 t150 h126) (j130 (.tup []) h126)) fun j127 =>
K.guK true t97 (K.callFK run 87 [t110, t122] h123 fun t151 h152 =>
j127 t151 h152) (j127 (.tup []) h123)) fun j124 =>
K.guK true t97 (K.ldK ctx 3 t119 h120 fun t153 =>
j124 t153 h120) (j124 (.tup []) h120)) fun j121 =>
K.guK true t97 (K.idxSK 1 t113 t116 fun t154 =>
j121 t154 h117) (j121 (.tup []) h117)) fun j118 =>
K.guK true t97 (j118 t95 h114) (j118 (.tup []) h114)) fun j115 =>
K.guK true t97 (j115 t81 h111) (j115 (.tup []) h111)) fun j112 =>
K.guK true t97 (K.ldK ctx 3 t107 h108 fun t155 =>
j112 t155 h108) (j112 (.tup []) h108)) fun j109 =>
K.guK true t97 (K.idxSK 1 t98 t104 fun t156 =>
j109 t156 h105) (j109 (.tup []) h105)) fun j106 =>
K.guK true t97 (K.subK (K.binV ctx .sub 3 true t101 (.int .i64 (.ofNat 1))) t101 (.int .i64 (.ofNat 1)) fun t157 =>
j106 t157 h102) (j106 (.tup []) h102)) fun j103 =>
K.guK true t97 (j103 t83 h99) (j103 (.tup []) h99)) fun j100 =>
K.guK true t97 (j100 t81 h79) (j100 (.tup []) h79))) fun j80 =>
K.letK (fun (t158 : AV) (h159 : H) => K.pickK t67 t158 (.bool false) fun t161 =>
K.letK (fun (t162 : AV) (h163 : H) => K.letK (fun (t165 : AV) (h166 : H) => K.pickK t161 t165 (.bool false) fun t168 =>
K.iteV t168 (
K.callFK run 86 [t59, t61, t63] h166 fun t169 h170 =>
K.iteV t169 (
K.unmarkK m56 h170 fun h171 => .ok (.tup []) h171) (
j80 [t59, t61, t63, t65, t67, t69, t71, t73] m56 h170)) (
j80 [t59, t61, t63, t65, t67, t69, t71, t73] m56 h166)) fun j167 =>
K.guK true t161 (K.eqK (K.binV ctx .eql 142 true t162 (.int .i64 (.ofNat 1))) t162 (.int .i64 (.ofNat 1)) fun t172 =>
j167 t172 h163) (j167 (.tup []) h163)) fun j164 =>
K.guK true t161 (j164 t75 h159) (j164 (.tup []) h159)) fun j160 =>
K.guK true t67 (j160 t69 h57) (j160 (.tup []) h57))) fun j58 =>
K.eqK (K.binV ctx .eql 142 true t54 (.int .i64 (.ofNat 2))) t54 (.int .i64 (.ofNat 2)) fun t173 =>
K.iteV t173 (
K.callFK run 85 [t37, t39, t41] h52 fun t174 h175 =>
K.subK (K.binV ctx .sub 3 true t41 (.int .i64 (.ofNat 1))) t41 (.int .i64 (.ofNat 1)) fun t176 =>
K.subK (K.binV ctx .sub 3 false t53 t39) t53 t39 fun t177 =>
K.subK (K.binV ctx .sub 3 false t176 t177) t176 t177 fun t178 =>
j58 [t37, t39, t41, t43, t45, t47, t49, t178, (.int .i64 (.ofNat 1))] m34 h175) (
j58 [t37, t39, t41, t43, t45, t47, t49, t53, t54] m34 h52))) fun j36 =>
K.notK t20 fun t179 =>
K.iteV t179 (
K.callFK run 83 [t12, t14, t16] h10 fun t180 h181 =>
K.subK (K.binV ctx .sub 3 true t18 (.int .i64 (.ofNat 1))) t18 (.int .i64 (.ofNat 1)) fun t182 =>
j36 [t12, t14, t16, t182, t20, t22, t24] m9 h181) (
j36 [t12, t14, t16, t18, t20, t22, t24] m9 h10))))) [t0, t2, t4, t6, (.bool true), (.bool true)] [] h)
noncomputable def r80 : K.KRun → List AV → H → K.KR := fun run args h => K.uncons args fun t0 l1 => K.unnil l1 (
K.iteV (.bool false) (
K.rK (convA ctx 122 151 t0 h) fun t2 h3 =>
K.callFK run 90 [t2] h3 fun t4 h5 =>
K.unmarkK [] h5 fun h6 => .ok t4 h6) (
K.callFK run 91 [t0] h fun t7 h8 =>
K.unmarkK [] h8 fun h9 => .ok t7 h9))
noncomputable def r81 : K.KRun → List AV → H → K.KR := fun run args h => K.uncons args fun t0 l1 => K.uncons l1 fun t2 l3 => K.uncons l3 fun t4 l5 => K.unnil l5 (
K.addK (K.binV ctx .add 3 true t2 (.int .i64 (.ofNat 1))) t2 (.int .i64 (.ofNat 1)) fun t6 =>
K.loopV (nat_lit 1000000) (fun s10 l7 m8 h9 => K.uncons l7 fun t11 l12 => K.uncons l12 fun t13 l14 => K.uncons l14 fun t15 l16 => K.uncons l16 fun t17 l18 => K.unnil l18 (
K.ltK (K.binV ctx .lss 3 false t17 t15) t17 t15 fun t19 =>
K.iteV t19 (
K.letK (fun (l20 : List AV) (m21 : List Nat) (h22 : H) => K.uncons l20 fun t24 l25 => K.uncons l25 fun t26 l27 => K.uncons l27 fun t28 l29 => K.uncons l29 fun t30 l31 => K.unnil l31 (
K.addK (K.binV ctx .add 3 true t30 (.int .i64 (.ofNat 1))) t30 (.int .i64 (.ofNat 1)) fun t32 =>
s10 [t24, t26, t28, t32] m21 h22)) fun j23 =>
K.loopV (nat_lit 1000000) (fun s36 l33 m34 h35 => K.uncons l33 fun t37 l38 => K.uncons l38 fun t39 l40 => K.uncons l40 fun t41 l42 => K.uncons l42 fun t43 l44 => K.uncons l44 fun t45 l46 => K.unnil l46 (
K.gtK (K.binV ctx .gtr 3 false t45 t39) t45 t39 fun t47 =>
K.letK (fun (t48 : AV) (h49 : H) => K.letK (fun (t51 : AV) (h52 : H) => K.letK (fun (t54 : AV) (h55 : H) => K.letK (fun (t57 : AV) (h58 : H) => K.letK (fun (t60 : AV) (h61 : H) => K.letK (fun (t63 : AV) (h64 : H) => K.letK (fun (t66 : AV) (h67 : H) => K.letK (fun (t69 : AV) (h70 : H) => K.letK (fun (t72 : AV) (h73 : H) => K.letK (fun (t75 : AV) (h76 : H) => K.pickK t47 t75 (.bool false) fun t78 =>
K.iteV t78 (
K.subK (K.binV ctx .sub 3 true t45 (.int .i64 (.ofNat 1))) t45 (.int .i64 (.ofNat 1)) fun t79 =>
K.subK (K.binV ctx .sub 3 true t45 (.int .i64 (.ofNat 1))) t45 (.int .i64 (.ofNat 1)) fun t80 =>
K.idxSK 1 t37 t80 fun t81 =>
K.ldK ctx 3 t81 h76 fun t82 =>
K.idxSK 1 t37 t45 fun t83 =>
K.ldK ctx 3 t83 h76 fun t84 =>
K.idxSK 1 t37 t45 fun t85 =>
K.stK t85 t82 h76 fun h86 =>
K.idxSK 1 t37 t79 fun t87 =>
K.stK t87 t84 h86 fun h88 =>
K.subK (K.binV ctx .sub 3 true t45 (.int .i64 (.ofNat 1))) t45 (.int .i64 (.ofNat 1)) fun t89 =>
s36 [t37, t39, t41, t43, t89] m34 h88) (
j23 [t37, t39, t41, t43] m34 h76)) fun j77 =>
K.guK true t47 (K.callFK run 87 [t57, t72] h73 fun t90 h91 =>
j77 t90 h91) (j77 (.tup []) h73)) fun j74 =>
K.guK true t47 (K.ldK ctx 3 t69 h70 fun t92 =>
j74 t92 h70) (j74 (.tup []) h70)) fun j71 =>
K.guK true t47 (K.idxSK 1 t60 t66 fun t93 =>
j71 t93 h67) (j71 (.tup []) h67)) fun j68 =>
K.guK true t47 (K.subK (K.binV ctx .sub 3 true t63 (.int .i64 (.ofNat 1))) t63 (.int .i64 (.ofNat 1)) fun t94 =>
j68 t94 h64) (j68 (.tup []) h64)) fun j65 =>
K.guK true t47 (j65 t45 h61) (j65 (.tup []) h61)) fun j62 =>
K.guK true t47 (j62 t37 h58) (j62 (.tup []) h58)) fun j59 =>
K.guK true t47 (K.ldK ctx 3 t54 h55 fun t95 =>
j59 t95 h55) (j59 (.tup []) h55)) fun j56 =>
K.guK true t47 (K.idxSK 1 t48 t51 fun t96 =>
j56 t96 h52) (j56 (.tup []) h52)) fun j53 =>
K.guK true t47 (j53 t45 h49) (j53 (.tup []) h49)) fun j50 =>
K.guK true t47 (j50 t37 h35) (j50 (.tup []) h35))) [t11, t13, t15, t17, t17] m8 h9) (
K.unmarkK m8 h9 fun h97 => .ok (.tup []) h97))) [t0, t2, t4, t6] [] h)
noncomputable def r87 : K.KRun → List AV → H → K.KR := fun run args h => K.uncons args fun t0 l1 => K.uncons l1 fun t2 l3 => K.unnil l3 (
K.callFK run 97 [t0] h fun t4 h5 =>
K.letK (fun (t6 : AV) (h7 : H) => K.letK (fun (t9 : AV) (h10 : H) => K.letK (fun (t12 : AV) (h13 : H) => K.pickK t4 t12 (.bool false) fun t15 =>
K.letK (fun (t16 : AV) (h17 : H) => K.letK (fun (t19 : AV) (h20 : H) => K.letK (fun (t22 : AV) (h23 : H) => K.pickK t15 (.bool true) t22 fun t25 =>
K.unmarkK [] h23 fun h26 => .ok t25 h26) fun j24 =>
K.guK false t15 (K.ltK (K.binV ctx .lss 3 false t16 t19) t16 t19 fun t27 =>
j24 t27 h20) (j24 (.tup []) h20)) fun j21 =>
K.guK false t15 (j21 t2 h17) (j21 (.tup []) h17)) fun j18 =>
K.guK false t15 (j18 t0 h13) (j18 (.tup []) h13)) fun j14 =>
K.guK true t4 (K.notK t9 fun t28 =>
j14 t28 h10) (j14 (.tup []) h10)) fun j11 =>
K.guK true t4 (K.callFK run 97 [t6] h7 fun t29 h30 =>
j11 t29 h30) (j11 (.tup []) h7)) fun j8 =>
K.guK true t4 (j8 t2 h5) (j8 (.tup []) h5))
noncomputable def r91 : K.KRun → List AV → H → K.KR := fun run args h => K.uncons args fun t0 l1 => K.unnil l1 (
K.letK (fun (l2 : List AV) (m3 : List Nat) (h4 : H) => K.uncons l2 fun t6 l7 => K.uncons l7 fun t8 l9 => K.unnil l9 (
K.letK (fun (l10 : List AV) (m11 : List Nat) (h12 : H) => K.uncons l10 fun t14 l15 => K.uncons l15 fun t16 l17 => K.unnil l17 (
K.letK (fun (l18 : List AV) (m19 : List Nat) (h20 : H) => K.uncons l18 fun t22 l23 => K.uncons l23 fun t24 l25 => K.unnil l25 (
K.rK (convA ctx 57 5 t22 h20) fun t26 h27 =>
K.idxTK (.str [0, 1, 2, 2, 3, 3, 3, 3, 4, 4, 4, 4, 4, 4, 4, 4, 5, 5, 5, 5, 5, 5, 5, 5, 5, 5, 5, 5, 5, 5, 5, 5, 6, 6, 6, 6, 6, 6, 6, 6, 6, 6, 6, 6, 6, 6, 6, 6, 6, 6, 6, 6, 6, 6, 6, 6, 6, 6, 6, 6, 6, 6, 6, 6, 7, 7, 7, 7, 7, 7, 7, 7, 7, 7, 7, 7, 7, 7, 7, 7, 7, 7, 7, 7, 7, 7, 7, 7, 7, 7, 7, 7, 7, 7, 7, 7, 7, 7, 7, 7, 7, 7, 7, 7, 7, 7, 7, 7, 7, 7, 7, 7, 7, 7, 7, 7, 7, 7, 7, 7, 7, 7, 7, 7, 7, 7, 7, 7, 8, 8, 8, 8, 8, 8, 8, 8, 8, 8, 8, 8, 8, 8, 8, 8, 8, 8, 8, 8, 8, 8, 8, 8, 8, 8, 8, 8, 8, 8, 8, 8, 8, 8, 8, 8, 8, 8, 8, 8, 8, 8, 8, 8, 8, 8, 8, 8, 8, 8, 8, 8, 8, 8, 8, 8, 8, 8, 8, 8, 8, 8, 8, 8, 8, 8, 8, 8, 8, 8, 8, 8, 8, 8, 8, 8, 8, 8, 8, 8, 8, 8, 8, 8, 8, 8, 8, 8, 8, 8, 8, 8, 8, 8, 8, 8, 8, 8, 8, 8, 8, 8, 8, 8, 8, 8, 8, 8, 8, 8, 8, 8, 8, 8, 8, 8, 8, 8, 8, 8, 8, 8, 8, 8, 8, 8, 8, 8]) t26 fun t28 =>
K.rK (convA ctx 5 3 t28 h27) fun t29 h30 =>
K.addK (K.binV ctx .add 3 false t24 t29) t24 t29 fun t31 =>
K.unmarkK m19 h30 fun h32 => .ok t31 h32)) fun j21 =>
K.geK (K.binV ctx .geq 57 true t14 (.int .u64 (.ofNat 256))) t14 (.int .u64 (.ofNat 256)) fun t33 =>
K.iteV t33 (
K.oK (K.binV ctx .shr 57 true t14 (.int .u64 (.ofNat 8))) fun t34 =>
K.addK (K.binV ctx .add 3 true t16 (.int .i64 (.ofNat 8))) t16 (.int .i64 (.ofNat 8)) fun t35 =>
j21 [t34, t35] m11 h12) (
j21 [t14, t16] m11 h12))) fun j13 =>
K.geK (K.binV ctx .geq 57 true t6 (.int .u64 (.ofNat 65536))) t6 (.int .u64 (.ofNat 65536)) fun t36 =>
K.iteV t36 (
K.oK (K.binV ctx .shr 57 true t6 (.int .u64 (.ofNat 16))) fun t37 =>
K.addK (K.binV ctx .add 3 true t8 (.int .i64 (.ofNat 16))) t8 (.int .i64 (.ofNat 16)) fun t38 =>
j13 [t37, t38] m3 h4) (
j13 [t6, t8] m3 h4))) fun j5 =>
K.geK (K.binV ctx .geq 57 true t0 (.int .u64 (.ofNat 4294967296))) t0 (.int .u64 (.ofNat 4294967296)) fun t39 =>
K.iteV t39 (
K.oK (K.binV ctx .shr 57 true t0 (.int .u64 (.ofNat 32))) fun t40 =>
j5 [t40, (.int .i64 (.ofNat 32))] [] h) (
j5 [t0, (.int .i64 (.ofNat 0))] [] h))
noncomputable def r97 : K.KRun → List AV → H → K.KR := fun run args h => K.uncons args fun t0 l1 => K.unnil l1 (
K.neK (K.binV ctx .neq 3 false t0 t0) t0 t0 fun t2 =>
K.unmarkK [] h fun h3 => .ok t2 h3)
noncomputable def y1 : K.RnF := fun run l args env h => K.uncons args fun t0 l1 => K.uncons l1 fun t2 l3 => K.unnil l3 (
K.opt (K.get env 2) fun t4 => K.opt (K.get env 4) fun t5 => K.begR l h fun h6 =>
K.ldK ctx 31 t4 h6 fun t7 =>
K.callFK run 24 [t7, t0, t2] h6 fun t8 h9 =>
K.neK (K.binV ctx .neq 25 true t8 (.int .i64 (.ofNat 0))) t8 (.int .i64 (.ofNat 0)) fun t10 =>
K.iteV t10 (
K.stK t5 t8 h9 fun h11 =>
K.finR l h11 .done (some .ret) false) (
K.finR l h9 .ready none true))
noncomputable def y2 : K.RnF := fun run l args env h => K.uncons args fun t0 l1 => K.unnil l1 (
K.begR l h fun h2 =>
K.nilK t0 fun t3 =>
K.fldK 2 t3 fun t4 =>
K.fldK 1 t4 fun t5 =>
K.ldK ctx 4 t5 h2 fun t6 =>
K.notK t6 fun t7 =>
K.iteV t7 (
K.finR l h2 .ready none true) (
K.nilK t0 fun t8 =>
K.fldK 2 t8 fun t9 =>
K.fldK 2 t9 fun t10 =>
K.ldK ctx 4 t10 h2 fun t11 =>
K.nilK t0 fun t12 =>
K.fldK 2 t12 fun t13 =>
K.fldK 3 t13 fun t14 =>
K.ldK ctx 57 t14 h2 fun t15 =>
K.callFK run 48 [t0, t15] h2 fun t16 h17 =>
K.nilK t0 fun t18 =>
K.fldK 2 t18 fun t19 =>
K.fldK 0 t19 fun t20 =>
K.stK t20 t11 h17 fun h21 =>
K.nilK t0 fun t22 =>
K.fldK 2 t22 fun t23 =>
K.fldK 2 t23 fun t24 =>
K.stK t24 t11 h21 fun h25 =>
K.finR l h25 .ready none true))
noncomputable def y3 : K.RnF := fun run l args env h => K.uncons args fun t0 l1 => K.unnil l1 (
K.opt (K.get env 2) fun t2 => K.begR l h fun h3 =>
K.ldK ctx 3 t2 h3 fun t4 =>
K.addK (K.binV ctx .add 3 true t4 (.int .i64 (.ofNat 1))) t4 (.int .i64 (.ofNat 1)) fun t5 =>
K.stK t2 t5 h3 fun h6 =>
K.finR l h6 .ready none true)
noncomputable def y4 : K.RnF := fun run l args env h => K.uncons args fun t0 l1 => K.unnil l1 (
K.opt (K.get env 5) fun t2 => K.begR l h fun h3 =>
K.ldK ctx 97 t2 h3 fun t4 =>
K.callVK run t4 [t0] h3 fun t5 h6 =>
K.finR l h6 .ready none true)
noncomputable def y5 : K.RnF := fun run l args env h => K.uncons args fun t0 l1 => K.unnil l1 (
K.opt (K.get env 4) fun t2 => K.begR l h fun h3 =>
K.ldK ctx 101 t2 h3 fun t4 =>
K.callVK run t4 [t0] h3 fun t5 h6 =>
K.finR l h6 .ready none true)
end YtbjhhgiigjnfeaaM
