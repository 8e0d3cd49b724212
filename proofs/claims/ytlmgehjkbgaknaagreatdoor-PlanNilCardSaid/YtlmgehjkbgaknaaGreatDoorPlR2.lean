/- PRINTED BY Gen2.lean (own): functions as plain texts, part 2. -/
import Derived.Test.YtlmgehjkbgaknaaGreatDoorPlCtx
namespace YtlmgehjkbgaknaaGreatDoorPlM
open Go Am
set_option maxRecDepth 100000
noncomputable def r124 : K.KRun → List AV → H → K.KR := fun run args h => K.uncons args fun t0 l1 => K.uncons l1 fun t2 l3 => K.uncons l3 fun t4 l5 => K.unnil l5 (
K.eqK (K.binV ctx .eql 43 true t0 .nilPtr) t0 .nilPtr fun t6 =>
K.iteV t6 (
K.unmarkK [] h fun h7 => .ok (.int .i64 (.ofNat 2)) h7) (
K.letK (fun (l8 : List AV) (m9 : List Nat) (h10 : H) => K.uncons l8 fun t12 l13 => K.uncons l13 fun t14 l15 => K.uncons l15 fun t16 l17 => K.uncons l17 fun t18 l19 => K.unnil l19 (
K.iteV t18 (
K.unmarkK m9 h10 fun h20 => .ok (.int .i64 (.ofNat 8)) h20) (
K.callFK run 119 [t12, t14] h10 fun t21 h22 =>
K.eqK (K.binV ctx .eql 24 false t21 t16) t21 t16 fun t23 =>
K.iteV t23 (
K.unmarkK m9 h22 fun h24 => .ok (.int .i64 (.ofNat 0)) h24) (
K.callFK run 192 [t12, t14, t16] h22 fun t25 h26 =>
K.unmarkK m9 h26 fun h27 => .ok t25 h27)))) fun j11 =>
K.ltK (K.binV ctx .lss 3 true t2 (.int .i64 (.ofNat 0))) t2 (.int .i64 (.ofNat 0)) fun t28 =>
K.iteV t28 (
j11 [t0, t2, t4, t28] [] h) (
K.callFK run 79 [t0] h fun t29 h30 =>
K.geK (K.binV ctx .geq 3 false t2 t29) t2 t29 fun t31 =>
j11 [t0, t2, t4, t31] [] h30)))
noncomputable def r125 : K.KRun → List AV → H → K.KR := fun run args h => K.uncons args fun t0 l1 => K.uncons l1 fun t2 l3 => K.unnil l3 (
K.boxK t0 h fun t4 h5 =>
K.boxK t2 h5 fun t6 h7 =>
K.letK (fun (l8 : List AV) (m9 : List Nat) (h10 : H) => K.uncons l8 fun t12 l13 => K.uncons l13 fun t14 l15 => K.unnil l15 (
K.unmarkK m9 h10 fun h16 => .ok (.func (.func 193) [] [t12, t14]) h16)) fun j11 =>
K.ldK ctx 3 t6 h7 fun t17 =>
K.ltK (K.binV ctx .lss 3 true t17 (.int .i64 (.ofNat 1))) t17 (.int .i64 (.ofNat 1)) fun t18 =>
K.iteV t18 (
K.slowK ctx run (K.opAt Go.Proofs.Tryz.f125 2 1) [7] [(.iface 9 (.str [99, 97, 110, 110, 111, 116, 32, 98, 101, 32, 108, 101, 115, 115, 32, 116, 104, 97, 110, 32, 49]))] h7 fun t19 h20 =>
j11 [t4, t6] [] h20) (
j11 [t4, t6] [] h7))
noncomputable def r126 : K.KRun → List AV → H → K.KR := fun run args h => K.uncons args fun t0 l1 => K.unnil l1 (
K.boxK t0 h fun t2 h3 =>
K.unmarkK [] h3 fun h4 => .ok (.func (.func 194) [] [t2]) h4)
noncomputable def r127 : K.KRun → List AV → H → K.KR := fun run args h => K.uncons args fun t0 l1 => K.uncons l1 fun t2 l3 => K.unnil l3 (
K.callFK run 191 [t0, t2, (.int .i64 (.ofNat 4)), (.int .i64 (.ofNat 56)), (.int .i64 (.ofNat 2))] h fun t4 h5 =>
K.unmarkK [] h5 fun h6 => .ok t4 h6)
noncomputable def r128 : K.KRun → List AV → H → K.KR := fun run args h => K.uncons args fun t0 l1 => K.uncons l1 fun t2 l3 => K.uncons l3 fun t4 l5 => K.unnil l5 (
K.loopV (nat_lit 1000000) (fun s9 l6 m7 h8 => K.uncons l6 fun t10 l11 => K.uncons l11 fun t12 l13 => K.uncons l13 fun t14 l15 => K.uncons l15 fun t16 l17 => K.unnil l17 (
K.ltK (K.binV ctx .lss 3 true t16 (.int .i64 (.ofNat 4))) t16 (.int .i64 (.ofNat 4)) fun t18 =>
K.iteV t18 (
K.ldK ctx 43 t12 h8 fun t19 =>
K.ldK ctx 3 t14 h8 fun t20 =>
K.callFK run 127 [t20, t16] h8 fun t21 h22 =>
K.ldK ctx 43 t12 h22 fun t23 =>
K.req (AV.same t19 t23) (
K.callFK run 119 [t19, t21] h22 fun t24 h25 =>
K.eqK (K.binV ctx .eql 24 true t24 (.int .u64 (.ofNat 0))) t24 (.int .u64 (.ofNat 0)) fun t26 =>
K.callVK run t10 [t16, t26] h25 fun t27 h28 =>
K.notK t27 fun t29 =>
K.iteV t29 (
K.unmarkK m7 h28 fun h30 => .ok (.tup []) h30) (
K.addK (K.binV ctx .add 3 true t16 (.int .i64 (.ofNat 1))) t16 (.int .i64 (.ofNat 1)) fun t31 =>
s9 [t10, t12, t14, t31] m7 h28))) (
K.unmarkK m7 h8 fun h32 => .ok (.tup []) h32))) [t0, t2, t4, (.int .i64 (.ofNat 0))] [] h)
noncomputable def r130 : K.KRun → List AV → H → K.KR := fun run args h => K.uncons args fun t0 l1 => K.uncons l1 fun t2 l3 => K.uncons l3 fun t4 l5 => K.unnil l5 (
K.boxK t2 h fun t6 h7 =>
K.allocK (K.zN ctx 230) (K.zT ctx 230) h7 fun t8 h9 =>
K.ldsK ctx 23 3 t6 h9 fun t10 =>
K.callFK run 195 [t0, t10, t4] h9 fun t11 h12 =>
K.extK t11 0 fun t13 =>
K.extK t11 1 fun t14 =>
K.neK (K.binV ctx .neq 28 true t14 (.int .i64 (.ofNat 0))) t14 (.int .i64 (.ofNat 0)) fun t15 =>
K.iteV t15 (
K.bldSK ctx 230 [] fun t16 =>
K.stsK 10 t8 t16 h12 fun h17 =>
K.unmarkK [] h17 fun h18 => K.asPtr t8 fun n19 n20 => K.loads h18 n19 n20 10 fun t21 => .ok (.tup [(.agg t21), t14]) h18) (
K.allocK (K.zN ctx 296) (K.zT ctx 296) h12 fun t22 h23 =>
K.letK (fun (l24 : List AV) (m25 : List Nat) (h26 : H) => K.uncons l24 fun t28 l29 => K.uncons l29 fun t30 l31 => K.uncons l31 fun t32 l33 => K.unnil l33 (
K.ldsK ctx 296 10 t32 h26 fun t34 =>
K.callFK run 196 [t34] h26 fun t35 h36 =>
K.allocK (K.zN ctx 230) (K.zT ctx 230) h36 fun t37 h38 =>
K.stsK 10 t37 t35 h38 fun h39 =>
K.ldsK ctx 23 3 t28 h39 fun t40 =>
K.ldsK ctx 230 10 t37 h39 fun t41 =>
K.callFK run 197 [t40, t41] h39 fun t42 h43 =>
K.notK t42 fun t44 =>
K.iteV t44 (
K.bldSK ctx 230 [] fun t45 =>
K.stsK 10 t30 t45 h43 fun h46 =>
K.unmarkK m25 h46 fun h47 => K.asPtr t30 fun n48 n49 => K.loads h47 n48 n49 10 fun t50 => .ok (.tup [(.agg t50), (.int .i64 (.ofNat 4))]) h47) (
K.ldsK ctx 230 10 t37 h43 fun t51 =>
K.stsK 10 t30 t51 h43 fun h52 =>
K.unmarkK m25 h52 fun h53 => K.asPtr t30 fun n54 n55 => K.loads h53 n54 n55 10 fun t56 => .ok (.tup [(.agg t56), (.int .i64 (.ofNat 0))]) h53))) fun j27 =>
K.loopV (nat_lit 1000000) (fun s60 l57 m58 h59 => K.uncons l57 fun t61 l62 => K.uncons l62 fun t63 l64 => K.uncons l64 fun t65 l66 => K.uncons l66 fun t67 l68 => K.uncons l68 fun t69 l70 => K.uncons l70 fun t71 l72 => K.unnil l72 (
K.ltK (K.binV ctx .lss 3 true t71 (.int .i64 (.ofNat 10))) t71 (.int .i64 (.ofNat 10)) fun t73 =>
K.iteV t73 (
K.addK (K.binV ctx .add 3 false t67 t71) t67 t71 fun t74 =>
K.callFK run 119 [t61, t74] h59 fun t75 h76 =>
K.idxAK 10 1 t69 t71 fun t77 =>
K.stK t77 t75 h76 fun h78 =>
K.addK (K.binV ctx .add 3 true t71 (.int .i64 (.ofNat 1))) t71 (.int .i64 (.ofNat 1)) fun t79 =>
s60 [t61, t63, t65, t67, t69, t79] m58 h78) (
j27 [t63, t65, t69] m58 h59))) [t0, t6, t8, t13, t22, (.int .i64 (.ofNat 0))] [] h23))
noncomputable def r131 : K.KRun → List AV → H → K.KR := fun run args h => K.uncons args fun t0 l1 => K.uncons l1 fun t2 l3 => K.uncons l3 fun t4 l5 => K.uncons l5 fun t6 l7 => K.unnil l7 (
K.boxK t6 h fun t8 h9 =>
K.callFK run 127 [t2, t4] h9 fun t10 h11 =>
K.fldK 0 t8 fun t12 =>
K.ldK ctx 3 t12 h11 fun t13 =>
K.rK (convA ctx 3 24 t13 h11) fun t14 h15 =>
K.callFK run 124 [t0, t10, t14] h15 fun t16 h17 =>
K.neK (K.binV ctx .neq 28 true t16 (.int .i64 (.ofNat 0))) t16 (.int .i64 (.ofNat 0)) fun t18 =>
K.iteV t18 (
K.unmarkK [] h17 fun h19 => .ok t16 h19) (
K.addK (K.binV ctx .add 3 true t10 (.int .i64 (.ofNat 1))) t10 (.int .i64 (.ofNat 1)) fun t20 =>
K.fldK 1 t8 fun t21 =>
K.ldK ctx 24 t21 h17 fun t22 =>
K.callFK run 124 [t0, t20, t22] h17 fun t23 h24 =>
K.unmarkK [] h24 fun h25 => .ok t23 h25))
noncomputable def r133 : K.KRun → List AV → H → K.KR := fun run args h => K.unnil args (
K.unmarkK [] h fun h0 => .ok (.int .i64 (.ofNat 264)) h0)
noncomputable def r134 : K.KRun → List AV → H → K.KR := fun run args h => K.uncons args fun t0 l1 => K.uncons l1 fun t2 l3 => K.uncons l3 fun t4 l5 => K.unnil l5 (
K.boxK t2 h fun t6 h7 =>
K.ldsK ctx 23 3 t6 h7 fun t8 =>
K.callFK run 207 [t0, t8] h7 fun t9 h10 =>
K.extK t9 0 fun t11 =>
K.extK t9 1 fun t12 =>
K.allocK (K.zN ctx 308) (K.zT ctx 308) h10 fun t13 h14 =>
K.stsK 4 t13 t11 h14 fun h15 =>
K.neK (K.binV ctx .neq 28 true t12 (.int .i64 (.ofNat 0))) t12 (.int .i64 (.ofNat 0)) fun t16 =>
K.iteV t16 (
K.unmarkK [] h15 fun h17 => .ok (.tup [(.int .i64 (.ofNat 0)), t12]) h17) (
K.callFK run 208 [t4] h15 fun t18 h19 =>
K.extK t18 0 fun t20 =>
K.extK t18 1 fun t21 =>
K.neK (K.binV ctx .neq 28 true t21 (.int .i64 (.ofNat 0))) t21 (.int .i64 (.ofNat 0)) fun t22 =>
K.iteV t22 (
K.unmarkK [] h19 fun h23 => .ok (.tup [(.int .i64 (.ofNat 0)), t21]) h23) (
K.ldsK ctx 308 4 t13 h19 fun t24 =>
K.callFK run 209 [t20, (.func (.func 210) [t24] [])] h19 fun t25 h26 =>
K.extK t25 0 fun t27 =>
K.extK t25 1 fun t28 =>
K.unmarkK [] h26 fun h29 => .ok (.tup [t27, t28]) h29)))
noncomputable def r135 : K.KRun → List AV → H → K.KR := fun run args h => K.uncons args fun t0 l1 => K.uncons l1 fun t2 l3 => K.uncons l3 fun t4 l5 => K.uncons l5 fun t6 l7 => K.unnil l7 (
K.boxK t0 h fun t8 h9 =>
K.boxK t2 h9 fun t10 h11 =>
K.ldK ctx 43 t8 h11 fun t12 =>
K.eqK (K.binV ctx .eql 43 true t12 .nilPtr) t12 .nilPtr fun t13 =>
K.iteV t13 (
K.unmarkK [] h11 fun h14 => .ok (.tup [(.int .i64 (.ofNat 0)), (.int .i64 (.ofNat 2))]) h14) (
K.neK (K.binV ctx .neq 24 true t6 (.int .u64 (.ofNat 1))) t6 (.int .u64 (.ofNat 1)) fun t15 =>
K.letK (fun (t16 : AV) (h17 : H) => K.letK (fun (t19 : AV) (h20 : H) => K.pickK t15 t19 (.bool false) fun t22 =>
K.iteV t22 (
K.unmarkK [] h20 fun h23 => .ok (.tup [(.int .i64 (.ofNat 0)), (.int .i64 (.ofNat 1))]) h23) (
K.ldK ctx 43 t8 h20 fun t24 =>
K.ldsK ctx 23 3 t10 h20 fun t25 =>
K.callFK run 211 [t24, t25, t4] h20 fun t26 h27 =>
K.extK t26 0 fun t28 =>
K.extK t26 1 fun t29 =>
K.extK t26 2 fun t30 =>
K.allocK (K.zN ctx 3) (K.zT ctx 3) h27 fun t31 h32 =>
K.allocK (K.zN ctx 9) (K.zT ctx 9) h32 fun t33 h34 =>
K.stK t31 t28 h34 fun h35 =>
K.stK t33 t29 h35 fun h36 =>
K.neK (K.binV ctx .neq 28 true t30 (.int .i64 (.ofNat 0))) t30 (.int .i64 (.ofNat 0)) fun t37 =>
K.iteV t37 (
K.unmarkK [] h36 fun h38 => .ok (.tup [(.int .i64 (.ofNat 0)), t30]) h38) (
K.ldK ctx 43 t8 h36 fun t39 =>
K.ldsK ctx 23 3 t10 h36 fun t40 =>
K.callFK run 205 [t39, t40] h36 fun t41 h42 =>
K.extK t41 0 fun t43 =>
K.extK t41 1 fun t44 =>
K.neK (K.binV ctx .neq 28 true t44 (.int .i64 (.ofNat 0))) t44 (.int .i64 (.ofNat 0)) fun t45 =>
K.iteV t45 (
K.unmarkK [] h42 fun h46 => .ok (.tup [(.int .i64 (.ofNat 0)), t44]) h46) (
K.callFK run 212 [t43] h42 fun t47 h48 =>
K.extK t47 0 fun t49 =>
K.extK t47 1 fun t50 =>
K.allocK (K.zN ctx 3) (K.zT ctx 3) h48 fun t51 h52 =>
K.stK t51 t49 h52 fun h53 =>
K.neK (K.binV ctx .neq 28 true t50 (.int .i64 (.ofNat 0))) t50 (.int .i64 (.ofNat 0)) fun t54 =>
K.iteV t54 (
K.unmarkK [] h53 fun h55 => .ok (.tup [(.int .i64 (.ofNat 0)), t50]) h55) (
K.bldSK ctx 230 [(0, t6), (1, (.int .u64 (.ofNat 1)))] fun t56 =>
K.allocK (K.zN ctx 230) (K.zT ctx 230) h53 fun t57 h58 =>
K.stsK 10 t57 t56 h58 fun h59 =>
K.letK (fun (l60 : List AV) (m61 : List Nat) (h62 : H) => K.uncons l60 fun t64 l65 => K.uncons l65 fun t66 l67 => K.uncons l67 fun t68 l69 => K.uncons l69 fun t70 l71 => K.uncons l71 fun t72 l73 => K.uncons l73 fun t74 l75 => K.unnil l75 (
K.bslK ctx 303 1 2 [(0, (.func (.func 213) [] [t64, t66, t72, t74])), (1, (.func (.func 215) [] [t64, t66, t68, t70, t72]))] h62 fun t76 h77 =>
K.callFK run 199 [t76] h77 fun t78 h79 =>
K.neK (K.binV ctx .neq 28 true t78 (.int .i64 (.ofNat 0))) t78 (.int .i64 (.ofNat 0)) fun t80 =>
K.iteV t80 (
K.unmarkK m61 h79 fun h81 => .ok (.tup [(.int .i64 (.ofNat 0)), t78]) h81) (
K.ldK ctx 3 t72 h79 fun t82 =>
K.unmarkK m61 h79 fun h83 => .ok (.tup [t82, (.int .i64 (.ofNat 0))]) h83))) fun j63 =>
K.eqK (K.binV ctx .eql 24 true t6 (.int .u64 (.ofNat 2))) t6 (.int .u64 (.ofNat 2)) fun t84 =>
K.iteV t84 (
K.ldK ctx 3 t31 h59 fun t85 =>
K.rK (convA ctx 3 24 t85 h59) fun t86 h87 =>
K.fldK 9 t57 fun t88 =>
K.stK t88 t86 h87 fun h89 =>
j63 [t8, t10, t31, t33, t51, t57] [] h89) (
j63 [t8, t10, t31, t33, t51, t57] [] h59)))))) fun j21 =>
K.guK true t15 (K.neK (K.binV ctx .neq 24 true t16 (.int .u64 (.ofNat 2))) t16 (.int .u64 (.ofNat 2)) fun t90 =>
j21 t90 h17) (j21 (.tup []) h17)) fun j18 =>
K.guK true t15 (j18 t6 h11) (j18 (.tup []) h11)))
noncomputable def r137 : K.KRun → List AV → H → K.KR := fun run args h => K.uncons args fun t0 l1 => K.uncons l1 fun t2 l3 => K.uncons l3 fun t4 l5 => K.uncons l5 fun t6 l7 => K.unnil l7 (
K.boxK t0 h fun t8 h9 =>
K.boxK t2 h9 fun t10 h11 =>
K.boxK t4 h11 fun t12 h13 =>
K.boxK t6 h13 fun t14 h15 =>
K.allocK (K.zN ctx 3) (K.zT ctx 3) h15 fun t16 h17 =>
K.allocK (K.zN ctx 28) (K.zT ctx 28) h17 fun t18 h19 =>
K.ldK ctx 43 t8 h19 fun t20 =>
K.ldsK ctx 23 3 t10 h19 fun t21 =>
K.ldK ctx 3 t12 h19 fun t22 =>
K.callFK run 74 [t20, t21, t22] h19 fun t23 h24 =>
K.neK (K.binV ctx .neq 28 true t23 (.int .i64 (.ofNat 0))) t23 (.int .i64 (.ofNat 0)) fun t25 =>
K.iteV t25 (
K.stK t16 (.int .i64 (.ofNat 0)) h24 fun h26 =>
K.stK t18 t23 h26 fun h27 =>
K.unmarkK [] h27 fun h28 => K.asPtr t16 fun n29 n30 => K.load1 h28 n29 n30 fun t31 => K.asPtr t18 fun n32 n33 => K.load1 h28 n32 n33 fun t34 => .ok (.tup [t31, t34]) h28) (
K.ldK ctx 43 t8 h24 fun t35 =>
K.ldsK ctx 23 3 t10 h24 fun t36 =>
K.ldK ctx 3 t14 h24 fun t37 =>
K.callFK run 130 [t35, t36, t37] h24 fun t38 h39 =>
K.extK t38 0 fun t40 =>
K.extK t38 1 fun t41 =>
K.allocK (K.zN ctx 230) (K.zT ctx 230) h39 fun t42 h43 =>
K.stsK 10 t42 t40 h43 fun h44 =>
K.neK (K.binV ctx .neq 28 true t41 (.int .i64 (.ofNat 0))) t41 (.int .i64 (.ofNat 0)) fun t45 =>
K.iteV t45 (
K.stK t16 (.int .i64 (.ofNat 0)) h44 fun h46 =>
K.stK t18 t41 h46 fun h47 =>
K.unmarkK [] h47 fun h48 => K.asPtr t16 fun n49 n50 => K.load1 h48 n49 n50 fun t51 => K.asPtr t18 fun n52 n53 => K.load1 h48 n52 n53 fun t54 => .ok (.tup [t51, t54]) h48) (
K.fldK 0 t42 fun t55 =>
K.ldK ctx 24 t55 h44 fun t56 =>
K.eqK (K.binV ctx .eql 24 true t56 (.int .u64 (.ofNat 2))) t56 (.int .u64 (.ofNat 2)) fun t57 =>
K.iteV t57 (
K.stK t16 (.int .i64 (.ofNat 0)) h44 fun h58 =>
K.stK t18 (.int .i64 (.ofNat 11)) h58 fun h59 =>
K.unmarkK [] h59 fun h60 => K.asPtr t16 fun n61 n62 => K.load1 h60 n61 n62 fun t63 => K.asPtr t18 fun n64 n65 => K.load1 h60 n64 n65 fun t66 => .ok (.tup [t63, t66]) h60) (
K.letK (fun (l67 : List AV) (m68 : List Nat) (h69 : H) => K.uncons l67 fun t71 l72 => K.uncons l72 fun t73 l74 => K.unnil l74 (
K.stK t71 (.int .i64 (.ofNat 0)) h69 fun h75 =>
K.stK t73 (.int .i64 (.ofNat 15)) h75 fun h76 =>
K.unmarkK m68 h76 fun h77 => K.asPtr t71 fun n78 n79 => K.load1 h77 n78 n79 fun t80 => K.asPtr t73 fun n81 n82 => K.load1 h77 n81 n82 fun t83 => .ok (.tup [t80, t83]) h77)) fun j70 =>
K.ldK ctx 43 t8 h44 fun t84 =>
K.ldK ctx 3 t12 h44 fun t85 =>
K.callFK run 75 [t84, t85] h44 fun t86 h87 =>
K.hNew h87 .marks fun r88 h89 => K.hNew h89 (.loop .ready none (K.mkT [4, 5, 6, 7, 8, 9, 11, 40] [t8, t10, t12, t14, t16, t18, t42, t86]) 3 r88) fun n90 h91 =>
K.rngK ctx run t86 n90 h91 (fun h93 => j70 [t16, t18] (r88 :: []) h93) (fun h94 => K.unmarkK (r88 :: []) h94 fun h97 => K.asPtr t16 fun n98 n99 => K.load1 h97 n98 n99 fun t100 => K.asPtr t18 fun n101 n102 => K.load1 h97 n101 n102 fun t103 => .ok (.tup [t100, t103]) h97) fun i92 h95 => (Bool.rec (motive := fun _ => K.KR) (.bad) (j70 [t16, t18] (r88 :: []) h95) (Nat.beq i92 1))))))
noncomputable def r175 : K.KRun → List AV → H → K.KR := fun run args h => K.uncons args fun t0 l1 => K.unnil l1 (
K.eqK (K.binV ctx .eql 131 true t0 .nilSlice) t0 .nilSlice fun t2 =>
K.iteV t2 (
K.unmarkK [] h fun h3 => .ok .nilSlice h3) (
K.bslK ctx 5 1 0 [] h fun t4 h5 =>
K.appK ctx 5 1 t4 t0 h5 fun t6 h7 =>
K.unmarkK [] h7 fun h8 => .ok t6 h8))
noncomputable def r176 : K.KRun → List AV → H → K.KR := fun run args h => K.uncons args fun t0 l1 => K.uncons l1 fun t2 l3 => K.unnil l3 (
K.eqK (K.binV ctx .eql 198 true t0 .nilPtr) t0 .nilPtr fun t4 =>
K.letK (fun (t5 : AV) (h6 : H) => K.letK (fun (t8 : AV) (h9 : H) => K.letK (fun (t11 : AV) (h12 : H) => K.letK (fun (t14 : AV) (h15 : H) => K.pickK t4 (.bool true) t14 fun t17 =>
K.iteV t17 (
K.unmarkK [] h15 fun h18 => .ok (.int .u8 (.ofNat 0)) h18) (
K.nilK t0 fun t19 =>
K.fldK 0 t19 fun t20 =>
K.ldK ctx 131 t20 h15 fun t21 =>
K.callVK run t2 [t21] h15 fun t22 h23 =>
K.extK t22 0 fun t24 =>
K.extK t22 1 fun t25 =>
K.eqK (K.binV ctx .eql 3 true t25 (.int .i64 (.ofNat 0))) t25 (.int .i64 (.ofNat 0)) fun t26 =>
K.nilK t0 fun t27 =>
K.fldK 1 t27 fun t28 =>
K.stK t28 t26 h23 fun h29 =>
K.nilK t0 fun t30 =>
K.fldK 1 t30 fun t31 =>
K.ldK ctx 4 t31 h29 fun t32 =>
K.iteV t32 (
K.unmarkK [] h29 fun h33 => .ok (.int .u8 (.ofNat 0)) h33) (
K.nilK t0 fun t34 =>
K.fldK 0 t34 fun t35 =>
K.ldK ctx 131 t35 h29 fun t36 =>
K.slcK ctx 131 t36 (some t25) none none h29 fun t37 =>
K.nilK t0 fun t38 =>
K.fldK 0 t38 fun t39 =>
K.stK t39 t37 h29 fun h40 =>
K.unmarkK [] h40 fun h41 => .ok t24 h41))) fun j16 =>
K.guK false t4 (K.ldK ctx 4 t11 h12 fun t42 =>
j16 t42 h12) (j16 (.tup []) h12)) fun j13 =>
K.guK false t4 (K.fldK 1 t8 fun t43 =>
j13 t43 h9) (j13 (.tup []) h9)) fun j10 =>
K.guK false t4 (K.nilK t5 fun t44 =>
j10 t44 h6) (j10 (.tup []) h6)) fun j7 =>
K.guK false t4 (j7 t0 h) (j7 (.tup []) h))
noncomputable def r177 : K.KRun → List AV → H → K.KR := fun run args h => K.uncons args fun t0 l1 => K.unnil l1 (
K.lenVK t0 fun t2 =>
K.eqK (K.binV ctx .eql 3 true t2 (.int .i64 (.ofNat 0))) t2 (.int .i64 (.ofNat 0)) fun t3 =>
K.iteV t3 (
K.unmarkK [] h fun h4 => .ok (.tup [(.int .u8 (.ofNat 0)), (.int .i64 (.ofNat 0))]) h4) (
K.idxSK 1 t0 (.int .i64 (.ofNat 0)) fun t5 =>
K.ldK ctx 5 t5 h fun t6 =>
K.unmarkK [] h fun h7 => .ok (.tup [t6, (.int .i64 (.ofNat 1))]) h7))
noncomputable def r178 : K.KRun → List AV → H → K.KR := fun run args h => K.uncons args fun t0 l1 => K.uncons l1 fun t2 l3 => K.unnil l3 (
K.boxK t0 h fun t4 h5 =>
K.boxK t2 h5 fun t6 h7 =>
K.allocK (K.zN ctx 208) (K.zT ctx 208) h7 fun t8 h9 =>
K.bldSK ctx 208 [(0, (.func (.func 266) [] [t6])), (1, (.func (.func 268) [] [t4, t6]))] fun t10 =>
K.stsK 2 t8 t10 h9 fun h11 =>
K.unmarkK [] h11 fun h12 => K.asPtr t8 fun n13 n14 => K.loads h12 n13 n14 2 fun t15 => .ok (.agg t15) h12)
noncomputable def r179 : K.KRun → List AV → H → K.KR := fun run args h => K.uncons args fun t0 l1 => K.unnil l1 (
K.nilK t0 fun t2 =>
K.fldK 5 t2 fun t3 =>
K.unmarkK [] h fun h4 => .ok t3 h4)
noncomputable def r182 : K.KRun → List AV → H → K.KR := fun run args h => K.uncons args fun t0 l1 => K.unnil l1 (
K.boxK t0 h fun t2 h3 =>
K.allocK (K.zN ctx 208) (K.zT ctx 208) h3 fun t4 h5 =>
K.bldSK ctx 208 [(0, (.func (.func 270) [] [t2])), (1, (.func (.func 271) [] [t2]))] fun t6 =>
K.stsK 2 t4 t6 h5 fun h7 =>
K.unmarkK [] h7 fun h8 => K.asPtr t4 fun n9 n10 => K.loads h8 n9 n10 2 fun t11 => .ok (.agg t11) h8)
noncomputable def r183 : K.KRun → List AV → H → K.KR := fun run args h => K.uncons args fun t0 l1 => K.unnil l1 (
K.nilK t0 fun t2 =>
K.fldK 2 t2 fun t3 =>
K.unmarkK [] h fun h4 => .ok t3 h4)
noncomputable def r186 : K.KRun → List AV → H → K.KR := fun run args h => K.uncons args fun t0 l1 => K.uncons l1 fun t2 l3 => K.unnil l3 (
K.boxK t2 h fun t4 h5 =>
K.fldK 1 t4 fun t6 =>
K.ldK ctx 5 t6 h5 fun t7 =>
K.rK (convA ctx 5 24 t7 h5) fun t8 h9 =>
K.callFK run 187 [t0, t8] h9 fun t10 h11 =>
K.unmarkK [] h11 fun h12 => .ok t10 h12)
noncomputable def r187 : K.KRun → List AV → H → K.KR := fun run args h => K.uncons args fun t0 l1 => K.uncons l1 fun t2 l3 => K.unnil l3 (
K.callFK run 272 [t2] h fun t4 h5 =>
K.addK (K.binV ctx .add 3 true t4 (.int .i64 (.ofNat 7))) t4 (.int .i64 (.ofNat 7)) fun t6 =>
K.oK (K.binV ctx .quo 3 true t6 (.int .i64 (.ofNat 8))) fun t7 =>
K.callFK run 175 [t0] h5 fun t8 h9 =>
K.rK (convA ctx 3 5 t7 h9) fun t10 h11 =>
K.bslK ctx 5 1 1 [(0, t10)] h11 fun t12 h13 =>
K.appK ctx 5 1 t8 t12 h13 fun t14 h15 =>
K.letK (fun (l16 : List AV) (m17 : List Nat) (h18 : H) => K.uncons l16 fun t20 l21 => K.unnil l21 (
K.unmarkK m17 h18 fun h22 => .ok t20 h22)) fun j19 =>
K.loopV (nat_lit 1000000) (fun s26 l23 m24 h25 => K.uncons l23 fun t27 l28 => K.uncons l28 fun t29 l30 => K.uncons l30 fun t31 l32 => K.uncons l32 fun t33 l34 => K.unnil l34 (
K.ltK (K.binV ctx .lss 3 false t33 t31) t33 t31 fun t35 =>
K.iteV t35 (
K.rK (convA ctx 24 5 t27 h25) fun t36 h37 =>
K.bslK ctx 5 1 1 [(0, t36)] h37 fun t38 h39 =>
K.appK ctx 5 1 t29 t38 h39 fun t40 h41 =>
K.oK (K.binV ctx .shr 24 true t27 (.int .u64 (.ofNat 8))) fun t42 =>
K.addK (K.binV ctx .add 3 true t33 (.int .i64 (.ofNat 1))) t33 (.int .i64 (.ofNat 1)) fun t43 =>
s26 [t42, t40, t31, t43] m24 h41) (
j19 [t29] m24 h25))) [t2, t14, t7, (.int .i64 (.ofNat 0))] [] h15)
noncomputable def r188 : K.KRun → List AV → H → K.KR := fun run args h => K.uncons args fun t0 l1 => K.uncons l1 fun t2 l3 => K.unnil l3 (
K.callFK run 189 [t0] h fun t4 h5 =>
K.slowK ctx run (K.opAt Go.Proofs.Tryz.f188 0 3) [6] [t4] h5 fun t6 h7 =>
K.rK (convA ctx 24 5 t6 h7) fun t8 h9 =>
K.nilK t2 fun t10 =>
K.fldK 1 t10 fun t11 =>
K.stK t11 t8 h9 fun h12 =>
K.unmarkK [] h12 fun h13 => .ok (.tup []) h13)
noncomputable def r189 : K.KRun → List AV → H → K.KR := fun run args h => K.uncons args fun t0 l1 => K.unnil l1 (
K.callFK run 273 [t0, (.func (.func 274) [] [])] h fun t2 h3 =>
K.unmarkK [] h3 fun h4 => .ok t2 h4)
noncomputable def r190 : K.KRun → List AV → H → K.KR := fun run args h => K.uncons args fun t0 l1 => K.uncons l1 fun t2 l3 => K.unnil l3 (
K.geK (K.binV ctx .geq 3 true t2 (.int .i64 (.ofNat 0))) t2 (.int .i64 (.ofNat 0)) fun t4 =>
K.letK (fun (t5 : AV) (h6 : H) => K.letK (fun (t8 : AV) (h9 : H) => K.letK (fun (t11 : AV) (h12 : H) => K.letK (fun (t14 : AV) (h15 : H) => K.pickK t4 t14 (.bool false) fun t17 =>
K.unmarkK [] h15 fun h18 => .ok t17 h18) fun j16 =>
K.guK true t4 (K.ltK (K.binV ctx .lss 3 false t5 t11) t5 t11 fun t19 =>
j16 t19 h12) (j16 (.tup []) h12)) fun j13 =>
K.guK true t4 (K.callFK run 79 [t8] h9 fun t20 h21 =>
j13 t20 h21) (j13 (.tup []) h9)) fun j10 =>
K.guK true t4 (j10 t0 h6) (j10 (.tup []) h6)) fun j7 =>
K.guK true t4 (j7 t2 h) (j7 (.tup []) h))
noncomputable def r191 : K.KRun → List AV → H → K.KR := fun run args h => K.uncons args fun t0 l1 => K.uncons l1 fun t2 l3 => K.uncons l3 fun t4 l5 => K.uncons l5 fun t6 l7 => K.uncons l7 fun t8 l9 => K.unnil l9 (
K.callFK run 78 [t0] h fun t10 h11 =>
K.ltK (K.binV ctx .lss 3 true t10 (.int .i64 (.ofNat 0))) t10 (.int .i64 (.ofNat 0)) fun t12 =>
K.letK (fun (t13 : AV) (h14 : H) => K.letK (fun (t16 : AV) (h17 : H) => K.letK (fun (t19 : AV) (h20 : H) => K.letK (fun (t22 : AV) (h23 : H) => K.letK (fun (t25 : AV) (h26 : H) => K.pickK t12 (.bool true) t25 fun t28 =>
K.iteV t28 (
K.unmarkK [] h26 fun h29 => .ok (.int .i64 (.negSucc 0)) h29) (
K.addK (K.binV ctx .add 3 false t10 t6) t10 t6 fun t30 =>
K.mulK (K.binV ctx .mul 3 false t8 t2) t8 t2 fun t31 =>
K.addK (K.binV ctx .add 3 false t30 t31) t30 t31 fun t32 =>
K.unmarkK [] h26 fun h33 => .ok t32 h33)) fun j27 =>
K.guK false t12 (K.notK t22 fun t34 =>
j27 t34 h23) (j27 (.tup []) h23)) fun j24 =>
K.guK false t12 (K.callFK run 101 [t13, (.int .i64 (.ofNat 0)), t19] h20 fun t35 h36 =>
j24 t35 h36) (j24 (.tup []) h20)) fun j21 =>
K.guK false t12 (K.subK (K.binV ctx .sub 3 true t16 (.int .i64 (.ofNat 1))) t16 (.int .i64 (.ofNat 1)) fun t37 =>
j21 t37 h17) (j21 (.tup []) h17)) fun j18 =>
K.guK false t12 (j18 t4 h14) (j18 (.tup []) h14)) fun j15 =>
K.guK false t12 (j15 t2 h11) (j15 (.tup []) h11))
noncomputable def r192 : K.KRun → List AV → H → K.KR := fun run args h => K.uncons args fun t0 l1 => K.uncons l1 fun t2 l3 => K.uncons l3 fun t4 l5 => K.unnil l5 (
K.eqK (K.binV ctx .eql 43 true t0 .nilPtr) t0 .nilPtr fun t6 =>
K.iteV t6 (
K.unmarkK [] h fun h7 => .ok (.int .i64 (.ofNat 2)) h7) (
K.callFK run 190 [t0, t2] h fun t8 h9 =>
K.notK t8 fun t10 =>
K.iteV t10 (
K.unmarkK [] h9 fun h11 => .ok (.int .i64 (.ofNat 8)) h11) (
K.letK (fun (l12 : List AV) (m13 : List Nat) (h14 : H) => K.uncons l12 fun t16 l17 => K.uncons l17 fun t18 l19 => K.uncons l19 fun t20 l21 => K.unnil l21 (
K.nilK t16 fun t22 =>
K.fldK 1 t22 fun t23 =>
K.ldK ctx 99 t23 h14 fun t24 =>
K.slowK ctx run (K.opAt Go.Proofs.Tryz.f192 10 6) [45, 46, 47] [t24, t18, t20] h14 fun t25 h26 =>
K.unmarkK m13 h26 fun h27 => .ok (.int .i64 (.ofNat 0)) h27)) fun j15 =>
K.nilK t0 fun t28 =>
K.fldK 1 t28 fun t29 =>
K.ldK ctx 99 t29 h9 fun t30 =>
K.slowK ctx run (K.opAt Go.Proofs.Tryz.f192 5 5) [19, 20] [t30, t2] h9 fun t31 h32 =>
K.extK t31 0 fun t33 =>
K.extK t31 1 fun t34 =>
K.notK t34 fun t35 =>
K.iteV t35 (
K.nilK t0 fun t36 =>
K.fldK 2 t36 fun t37 =>
K.ldK ctx 67 t37 h32 fun t38 =>
K.lenVK t38 fun t39 =>
K.geK (K.binV ctx .geq 3 true t39 (.int .i64 (.ofNat 96))) t39 (.int .i64 (.ofNat 96)) fun t40 =>
K.iteV t40 (
K.unmarkK [] h32 fun h41 => .ok (.int .i64 (.ofNat 5)) h41) (
K.nilK t0 fun t42 =>
K.fldK 2 t42 fun t43 =>
K.ldK ctx 67 t43 h32 fun t44 =>
K.bslK ctx 3 1 1 [(0, t2)] h32 fun t45 h46 =>
K.appK ctx 3 1 t44 t45 h46 fun t47 h48 =>
K.nilK t0 fun t49 =>
K.fldK 2 t49 fun t50 =>
K.stK t50 t47 h48 fun h51 =>
j15 [t0, t2, t4] [] h51)) (
j15 [t0, t2, t4] [] h32))))
noncomputable def r193 : K.KRun → List AV → H → K.KR := fun run args h => K.uncons args fun t0 l1 => K.uncons l1 fun t2 l3 => K.uncons l3 fun t4 l5 => K.unnil l5 (
K.loopV (nat_lit 1000000) (fun s9 l6 m7 h8 => K.uncons l6 fun t10 l11 => K.uncons l11 fun t12 l13 => K.uncons l13 fun t14 l15 => K.uncons l15 fun t16 l17 => K.unnil l17 (
K.ldK ctx 131 t12 h8 fun t18 =>
K.lenVK t18 fun t19 =>
K.ltK (K.binV ctx .lss 3 false t16 t19) t16 t19 fun t20 =>
K.iteV t20 (
K.ldK ctx 3 t14 h8 fun t21 =>
K.ldK ctx 131 t12 h8 fun t22 =>
K.slcK ctx 131 t22 (some t16) none none h8 fun t23 =>
K.lenVK t23 fun t24 =>
K.slowK ctx run (K.opAt Go.Proofs.Tryz.f193 3 5) [13, 17] [t21, t24] h8 fun t25 h26 =>
K.ldK ctx 131 t12 h26 fun t27 =>
K.addK (K.binV ctx .add 3 false t16 t25) t16 t25 fun t28 =>
K.addK (K.binV ctx .add 3 false t16 t25) t16 t25 fun t29 =>
K.slcK ctx 131 t27 (some t16) (some t28) (some t29) h26 fun t30 =>
K.callVK run t10 [t30] h26 fun t31 h32 =>
K.notK t31 fun t33 =>
K.iteV t33 (
K.unmarkK m7 h32 fun h34 => .ok (.tup []) h34) (
K.ldK ctx 3 t14 h32 fun t35 =>
K.addK (K.binV ctx .add 3 false t16 t35) t16 t35 fun t36 =>
s9 [t10, t12, t14, t36] m7 h32)) (
K.unmarkK m7 h8 fun h37 => .ok (.tup []) h37))) [t0, t2, t4, (.int .i64 (.ofNat 0))] [] h)
noncomputable def r194 : K.KRun → List AV → H → K.KR := fun run args h => K.uncons args fun t0 l1 => K.uncons l1 fun t2 l3 => K.unnil l3 (
K.ldK ctx 131 t2 h fun t4 =>
K.lenVK t4 fun t5 =>
K.subK (K.binV ctx .sub 3 true t5 (.int .i64 (.ofNat 1))) t5 (.int .i64 (.ofNat 1)) fun t6 =>
K.loopV (nat_lit 1000000) (fun s10 l7 m8 h9 => K.uncons l7 fun t11 l12 => K.uncons l12 fun t13 l14 => K.uncons l14 fun t15 l16 => K.unnil l16 (
K.geK (K.binV ctx .geq 3 true t15 (.int .i64 (.ofNat 0))) t15 (.int .i64 (.ofNat 0)) fun t17 =>
K.iteV t17 (
K.ldK ctx 131 t13 h9 fun t18 =>
K.idxSK 1 t18 t15 fun t19 =>
K.ldK ctx 5 t19 h9 fun t20 =>
K.callVK run t11 [t15, t20] h9 fun t21 h22 =>
K.notK t21 fun t23 =>
K.iteV t23 (
K.unmarkK m8 h22 fun h24 => .ok (.tup []) h24) (
K.subK (K.binV ctx .sub 3 true t15 (.int .i64 (.ofNat 1))) t15 (.int .i64 (.ofNat 1)) fun t25 =>
s10 [t11, t13, t25] m8 h22)) (
K.unmarkK m8 h9 fun h26 => .ok (.tup []) h26))) [t0, t2, t6] [] h)
noncomputable def r195 : K.KRun → List AV → H → K.KR := fun run args h => K.uncons args fun t0 l1 => K.uncons l1 fun t2 l3 => K.uncons l3 fun t4 l5 => K.unnil l5 (
K.boxK t2 h fun t6 h7 =>
K.ldsK ctx 23 3 t6 h7 fun t8 =>
K.callFK run 57 [t8, t4] h7 fun t9 h10 =>
K.eqK (K.binV ctx .eql 43 true t0 .nilPtr) t0 .nilPtr fun t11 =>
K.iteV t11 (
K.unmarkK [] h10 fun h12 => .ok (.tup [(.int .i64 (.ofNat 0)), (.int .i64 (.ofNat 2))]) h12) (
K.letK (fun (l13 : List AV) (m14 : List Nat) (h15 : H) => K.uncons l13 fun t17 l18 => K.uncons l18 fun t19 l20 => K.uncons l20 fun t21 l22 => K.uncons l22 fun t23 l24 => K.unnil l24 (
K.iteV t23 (
K.unmarkK m14 h15 fun h25 => .ok (.tup [(.int .i64 (.ofNat 0)), (.int .i64 (.ofNat 1))]) h25) (
K.ldsK ctx 23 3 t19 h15 fun t26 =>
K.callFK run 79 [t17] h15 fun t27 h28 =>
K.ldsK ctx 23 3 t19 h28 fun t29 =>
K.req (AV.same t26 t29) (
K.callFK run 54 [t26] h28 fun t30 h31 =>
K.ltK (K.binV ctx .lss 3 false t27 t30) t27 t30 fun t32 =>
K.iteV t32 (
K.unmarkK m14 h31 fun h33 => .ok (.tup [(.int .i64 (.ofNat 0)), (.int .i64 (.ofNat 8))]) h33) (
K.unmarkK m14 h31 fun h34 => .ok (.tup [t21, (.int .i64 (.ofNat 0))]) h34))))) fun j16 =>
K.ltK (K.binV ctx .lss 3 true t9 (.int .i64 (.ofNat 0))) t9 (.int .i64 (.ofNat 0)) fun t35 =>
K.iteV t35 (
j16 [t0, t6, t9, t35] [] h10) (
K.eqK (K.binV ctx .eql 3 true t4 (.int .i64 (.ofNat 0))) t4 (.int .i64 (.ofNat 0)) fun t36 =>
j16 [t0, t6, t9, t36] [] h10)))
noncomputable def r196 : K.KRun → List AV → H → K.KR := fun run args h => K.uncons args fun t0 l1 => K.unnil l1 (
K.boxK t0 h fun t2 h3 =>
K.allocK (K.zN ctx 230) (K.zT ctx 230) h3 fun t4 h5 =>
K.idxAK 10 1 t2 (.int .i64 (.ofNat 0)) fun t6 =>
K.ldK ctx 24 t6 h5 fun t7 =>
K.idxAK 10 1 t2 (.int .i64 (.ofNat 1)) fun t8 =>
K.ldK ctx 24 t8 h5 fun t9 =>
K.idxAK 10 1 t2 (.int .i64 (.ofNat 2)) fun t10 =>
K.ldK ctx 24 t10 h5 fun t11 =>
K.idxAK 10 1 t2 (.int .i64 (.ofNat 3)) fun t12 =>
K.ldK ctx 24 t12 h5 fun t13 =>
K.slcK ctx 296 t2 (some (.int .i64 (.ofNat 4))) (some (.int .i64 (.ofNat 8))) none h5 fun t14 =>
K.slowK ctx run (K.opAt Go.Proofs.Tryz.f196 1 9) [11] [t14] h5 fun t15 h16 =>
K.ldsK ctx 228 4 t15 h16 fun t17 =>
K.idxAK 10 1 t2 (.int .i64 (.ofNat 8)) fun t18 =>
K.ldK ctx 24 t18 h16 fun t19 =>
K.idxAK 10 1 t2 (.int .i64 (.ofNat 9)) fun t20 =>
K.ldK ctx 24 t20 h16 fun t21 =>
K.bldSK ctx 230 [(0, t7), (1, t9), (2, t11), (3, t13), (4, t17), (5, t19), (6, t21)] fun t22 =>
K.stsK 10 t4 t22 h16 fun h23 =>
K.unmarkK [] h23 fun h24 => K.asPtr t4 fun n25 n26 => K.loads h24 n25 n26 10 fun t27 => .ok (.agg t27) h24)
noncomputable def r197 : K.KRun → List AV → H → K.KR := fun run args h => K.uncons args fun t0 l1 => K.uncons l1 fun t2 l3 => K.unnil l3 (
K.boxK t0 h fun t4 h5 =>
K.boxK t2 h5 fun t6 h7 =>
K.ldsK ctx 23 3 t4 h7 fun t8 =>
K.callFK run 53 [t8] h7 fun t9 h10 =>
K.notK t9 fun t11 =>
K.letK (fun (t12 : AV) (h13 : H) => K.letK (fun (t15 : AV) (h16 : H) => K.letK (fun (t18 : AV) (h19 : H) => K.pickK t11 (.bool true) t18 fun t21 =>
K.iteV t21 (
K.unmarkK [] h19 fun h22 => .ok (.bool false) h22) (
K.fldK 4 t6 fun t23 =>
K.slcK ctx 228 t23 none none none h19 fun t24 =>
K.fldK 8 t6 fun t25 =>
K.ldK ctx 24 t25 h19 fun t26 =>
K.bslK ctx 24 1 1 [(0, t26)] h19 fun t27 h28 =>
K.appK ctx 24 1 t24 t27 h28 fun t29 h30 =>
K.fldK 2 t4 fun t31 =>
K.ldK ctx 3 t31 h30 fun t32 =>
K.rK (convA ctx 3 24 t32 h30) fun t33 h34 =>
K.callFK run 275 [t29] h34 fun t35 h36 =>
K.ldK ctx 3 t31 h36 fun t37 =>
K.req (AV.same t32 t37) (
K.geK (K.binV ctx .geq 24 false t35 t33) t35 t33 fun t38 =>
K.letK (fun (t39 : AV) (h40 : H) => K.letK (fun (t42 : AV) (h43 : H) => K.letK (fun (t45 : AV) (h46 : H) => K.letK (fun (t48 : AV) (h49 : H) => K.letK (fun (t51 : AV) (h52 : H) => K.letK (fun (t54 : AV) (h55 : H) => K.pickK t38 (.bool true) t54 fun t57 =>
K.iteV t57 (
K.unmarkK [] h55 fun h58 => .ok (.bool false) h58) (
K.fldK 1 t6 fun t59 =>
K.ldK ctx 24 t59 h55 fun t60 =>
K.gtK (K.binV ctx .gtr 24 true t60 (.int .u64 (.ofNat 65536))) t60 (.int .u64 (.ofNat 65536)) fun t61 =>
K.letK (fun (t62 : AV) (h63 : H) => K.letK (fun (t65 : AV) (h66 : H) => K.letK (fun (t68 : AV) (h69 : H) => K.pickK t61 (.bool true) t68 fun t71 =>
K.letK (fun (t72 : AV) (h73 : H) => K.letK (fun (t75 : AV) (h76 : H) => K.letK (fun (t78 : AV) (h79 : H) => K.pickK t71 (.bool true) t78 fun t81 =>
K.iteV t81 (
K.unmarkK [] h79 fun h82 => .ok (.bool false) h82) (
K.fldK 0 t6 fun t83 =>
K.ldK ctx 24 t83 h79 fun t84 =>
K.eqK (K.binV ctx .eql 24 true t84 (.int .u64 (.ofNat 1))) t84 (.int .u64 (.ofNat 1)) fun t85 =>
K.iteV t85 (
K.fldK 9 t6 fun t86 =>
K.ldK ctx 24 t86 h79 fun t87 =>
K.eqK (K.binV ctx .eql 24 true t87 (.int .u64 (.ofNat 0))) t87 (.int .u64 (.ofNat 0)) fun t88 =>
K.unmarkK [] h79 fun h89 => .ok t88 h89) (
K.eqK (K.binV ctx .eql 24 true t84 (.int .u64 (.ofNat 2))) t84 (.int .u64 (.ofNat 2)) fun t90 =>
K.iteV t90 (
K.fldK 3 t6 fun t91 =>
K.ldK ctx 24 t91 h79 fun t92 =>
K.eqK (K.binV ctx .eql 24 true t92 (.int .u64 (.ofNat 0))) t92 (.int .u64 (.ofNat 0)) fun t93 =>
K.unmarkK [] h79 fun h94 => .ok t93 h94) (
K.unmarkK [] h79 fun h95 => .ok (.bool false) h95)))) fun j80 =>
K.guK false t71 (K.gtK (K.binV ctx .gtr 24 true t75 (.int .u64 (.ofNat 768))) t75 (.int .u64 (.ofNat 768)) fun t96 =>
j80 t96 h76) (j80 (.tup []) h76)) fun j77 =>
K.guK false t71 (K.ldK ctx 24 t72 h73 fun t97 =>
j77 t97 h73) (j77 (.tup []) h73)) fun j74 =>
K.guK false t71 (K.fldK 3 t6 fun t98 =>
j74 t98 h69) (j74 (.tup []) h69)) fun j70 =>
K.guK false t61 (K.gtK (K.binV ctx .gtr 24 true t65 (.int .u64 (.ofNat 16))) t65 (.int .u64 (.ofNat 16)) fun t99 =>
j70 t99 h66) (j70 (.tup []) h66)) fun j67 =>
K.guK false t61 (K.ldK ctx 24 t62 h63 fun t100 =>
j67 t100 h63) (j67 (.tup []) h63)) fun j64 =>
K.guK false t61 (K.fldK 2 t6 fun t101 =>
j64 t101 h55) (j64 (.tup []) h55))) fun j56 =>
K.guK false t38 (K.geK (K.binV ctx .geq 24 false t42 t51) t42 t51 fun t102 =>
j56 t102 h52) (j56 (.tup []) h52)) fun j53 =>
K.guK false t38 (K.rK (convA ctx 3 24 t48 h49) fun t103 h104 =>
j53 t103 h104) (j53 (.tup []) h49)) fun j50 =>
K.guK false t38 (K.ldK ctx 3 t45 h46 fun t105 =>
j50 t105 h46) (j50 (.tup []) h46)) fun j47 =>
K.guK false t38 (K.fldK 1 t4 fun t106 =>
j47 t106 h43) (j47 (.tup []) h43)) fun j44 =>
K.guK false t38 (K.ldK ctx 24 t39 h40 fun t107 =>
j44 t107 h40) (j44 (.tup []) h40)) fun j41 =>
K.guK false t38 (K.fldK 9 t6 fun t108 =>
j41 t108 h36) (j41 (.tup []) h36)))) fun j20 =>
K.guK false t11 (K.eqK (K.binV ctx .eql 230 false t12 t15) t12 t15 fun t109 =>
j20 t109 h16) (j20 (.tup []) h16)) fun j17 =>
K.guK false t11 (K.bldSK ctx 230 [] fun t110 =>
j17 t110 h13) (j17 (.tup []) h13)) fun j14 =>
K.guK false t11 (K.ldsK ctx 230 10 t6 h10 fun t111 =>
j14 t111 h10) (j14 (.tup []) h10))
noncomputable def r198 : K.KRun → List AV → H → K.KR := fun run args h => K.uncons args fun t0 l1 => K.uncons l1 fun t2 l3 => K.uncons l3 fun t4 l5 => K.unnil l5 (
K.boxK t2 h fun t6 h7 =>
K.ldsK ctx 23 3 t6 h7 fun t8 =>
K.callFK run 130 [t0, t8, t4] h7 fun t9 h10 =>
K.extK t9 0 fun t11 =>
K.extK t9 1 fun t12 =>
K.allocK (K.zN ctx 230) (K.zT ctx 230) h10 fun t13 h14 =>
K.stsK 10 t13 t11 h14 fun h15 =>
K.neK (K.binV ctx .neq 28 true t12 (.int .i64 (.ofNat 0))) t12 (.int .i64 (.ofNat 0)) fun t16 =>
K.iteV t16 (
K.unmarkK [] h15 fun h17 => .ok (.tup [.nilPtr, t12]) h17) (
K.ldsK ctx 23 3 t6 h15 fun t18 =>
K.bldSK ctx 375 [(0, t0), (1, t18), (2, t4)] fun t19 =>
K.boxK t19 h15 fun t20 h21 =>
K.unmarkK [] h21 fun h22 => .ok (.tup [t20, (.int .i64 (.ofNat 0))]) h22))
noncomputable def r199 : K.KRun → List AV → H → K.KR := fun run args h => K.uncons args fun t0 l1 => K.unnil l1 (
K.letK (fun (l2 : List AV) (m3 : List Nat) (h4 : H) => K.unnil l2 (
K.unmarkK m3 h4 fun h6 => .ok (.int .i64 (.ofNat 0)) h6)) fun j5 =>
K.lenVK t0 fun t7 =>
K.loopV (nat_lit 1000000) (fun s11 l8 m9 h10 => K.uncons l8 fun t12 l13 => K.uncons l13 fun t14 l15 => K.uncons l15 fun t16 l17 => K.unnil l17 (
K.ltK (K.binV ctx .lss 3 false t16 t14) t16 t14 fun t18 =>
K.iteV t18 (
K.idxSK 1 t12 t16 fun t19 =>
K.ldK ctx 303 t19 h10 fun t20 =>
K.callVK run t20 [] h10 fun t21 h22 =>
K.neK (K.binV ctx .neq 28 true t21 (.int .i64 (.ofNat 0))) t21 (.int .i64 (.ofNat 0)) fun t23 =>
K.iteV t23 (
K.unmarkK m9 h22 fun h24 => .ok t21 h24) (
K.addK (K.binV ctx .add 3 true t16 (.int .i64 (.ofNat 1))) t16 (.int .i64 (.ofNat 1)) fun t25 =>
s11 [t12, t14, t25] m9 h22)) (
j5 [] m9 h10))) [t0, t7, (.int .i64 (.ofNat 0))] [] h)
noncomputable def r205 : K.KRun → List AV → H → K.KR := fun run args h => K.uncons args fun t0 l1 => K.uncons l1 fun t2 l3 => K.unnil l3 (
K.boxK t2 h fun t4 h5 =>
K.eqK (K.binV ctx .eql 43 true t0 .nilPtr) t0 .nilPtr fun t6 =>
K.iteV t6 (
K.unmarkK [] h5 fun h7 => .ok (.tup [.nilPtr, (.int .i64 (.ofNat 2))]) h7) (
K.ldsK ctx 23 3 t4 h5 fun t8 =>
K.callFK run 53 [t8] h5 fun t9 h10 =>
K.notK t9 fun t11 =>
K.iteV t11 (
K.unmarkK [] h10 fun h12 => .ok (.tup [.nilPtr, (.int .i64 (.ofNat 1))]) h12) (
K.ldsK ctx 23 3 t4 h10 fun t13 =>
K.callFK run 79 [t0] h10 fun t14 h15 =>
K.ldsK ctx 23 3 t4 h15 fun t16 =>
K.req (AV.same t13 t16) (
K.callFK run 54 [t13] h15 fun t17 h18 =>
K.ltK (K.binV ctx .lss 3 false t14 t17) t14 t17 fun t19 =>
K.iteV t19 (
K.unmarkK [] h18 fun h20 => .ok (.tup [.nilPtr, (.int .i64 (.ofNat 8))]) h20) (
K.ldsK ctx 23 3 t4 h18 fun t21 =>
K.fldK 1 t4 fun t22 =>
K.ldK ctx 3 t22 h18 fun t23 =>
K.callFK run 55 [t21] h18 fun t24 h25 =>
K.ldK ctx 3 t22 h25 fun t26 =>
K.req (AV.same t23 t26) (
K.callFK run 279 [t0, t24, t23] h25 fun t27 h28 =>
K.extK t27 0 fun t29 =>
K.extK t27 1 fun t30 =>
K.neK (K.binV ctx .neq 28 true t30 (.int .i64 (.ofNat 0))) t30 (.int .i64 (.ofNat 0)) fun t31 =>
K.iteV t31 (
K.unmarkK [] h28 fun h32 => .ok (.tup [.nilPtr, t30]) h32) (
K.ldsK ctx 23 3 t4 h28 fun t33 =>
K.fldK 2 t4 fun t34 =>
K.ldK ctx 3 t34 h28 fun t35 =>
K.callFK run 56 [t33] h28 fun t36 h37 =>
K.ldK ctx 3 t34 h37 fun t38 =>
K.req (AV.same t35 t38) (
K.callFK run 279 [t0, t36, t35] h37 fun t39 h40 =>
K.extK t39 0 fun t41 =>
K.extK t39 1 fun t42 =>
K.neK (K.binV ctx .neq 28 true t42 (.int .i64 (.ofNat 0))) t42 (.int .i64 (.ofNat 0)) fun t43 =>
K.iteV t43 (
K.unmarkK [] h40 fun h44 => .ok (.tup [.nilPtr, t42]) h44) (
K.ldsK ctx 23 3 t4 h40 fun t45 =>
K.fldK 1 t4 fun t46 =>
K.ldK ctx 3 t46 h40 fun t47 =>
K.bldSK ctx 382 [(0, t29), (1, t47)] fun t48 =>
K.fldK 2 t4 fun t49 =>
K.ldK ctx 3 t49 h40 fun t50 =>
K.bldSK ctx 382 [(0, t41), (1, t50)] fun t51 =>
K.bldSK ctx 384 [(0, t0), (1, t45), (2, t48), (3, t51)] fun t52 =>
K.boxK t52 h40 fun t53 h54 =>
K.unmarkK [] h54 fun h55 => .ok (.tup [t53, (.int .i64 (.ofNat 0))]) h55)))))))))
noncomputable def r207 : K.KRun → List AV → H → K.KR := fun run args h => K.uncons args fun t0 l1 => K.uncons l1 fun t2 l3 => K.unnil l3 (
K.boxK t2 h fun t4 h5 =>
K.allocK (K.zN ctx 308) (K.zT ctx 308) h5 fun t6 h7 =>
K.eqK (K.binV ctx .eql 43 true t0 .nilPtr) t0 .nilPtr fun t8 =>
K.iteV t8 (
K.bldSK ctx 308 [] fun t9 =>
K.stsK 4 t6 t9 h7 fun h10 =>
K.unmarkK [] h10 fun h11 => K.asPtr t6 fun n12 n13 => K.loads h11 n12 n13 4 fun t14 => .ok (.tup [(.agg t14), (.int .i64 (.ofNat 2))]) h11) (
K.ldsK ctx 23 3 t4 h7 fun t15 =>
K.callFK run 53 [t15] h7 fun t16 h17 =>
K.notK t16 fun t18 =>
K.iteV t18 (
K.bldSK ctx 308 [] fun t19 =>
K.stsK 4 t6 t19 h17 fun h20 =>
K.unmarkK [] h20 fun h21 => K.asPtr t6 fun n22 n23 => K.loads h21 n22 n23 4 fun t24 => .ok (.tup [(.agg t24), (.int .i64 (.ofNat 1))]) h21) (
K.ldsK ctx 23 3 t4 h17 fun t25 =>
K.callFK run 79 [t0] h17 fun t26 h27 =>
K.ldsK ctx 23 3 t4 h27 fun t28 =>
K.req (AV.same t25 t28) (
K.callFK run 54 [t25] h27 fun t29 h30 =>
K.ltK (K.binV ctx .lss 3 false t26 t29) t26 t29 fun t31 =>
K.iteV t31 (
K.bldSK ctx 308 [] fun t32 =>
K.stsK 4 t6 t32 h30 fun h33 =>
K.unmarkK [] h33 fun h34 => K.asPtr t6 fun n35 n36 => K.loads h34 n35 n36 4 fun t37 => .ok (.tup [(.agg t37), (.int .i64 (.ofNat 8))]) h34) (
K.ldsK ctx 23 3 t4 h30 fun t38 =>
K.bldSK ctx 308 [(0, t0), (1, t38)] fun t39 =>
K.stsK 4 t6 t39 h30 fun h40 =>
K.unmarkK [] h40 fun h41 => K.asPtr t6 fun n42 n43 => K.loads h41 n42 n43 4 fun t44 => .ok (.tup [(.agg t44), (.int .i64 (.ofNat 0))]) h41)))))
noncomputable def r208 : K.KRun → List AV → H → K.KR := fun run args h => K.uncons args fun t0 l1 => K.unnil l1 (
K.allocK (K.zN ctx 311) (K.zT ctx 311) h fun t2 h3 =>
K.allocK (K.zN ctx 28) (K.zT ctx 28) h3 fun t4 h5 =>
K.lenTK t0 fun t6 =>
K.gtK (K.binV ctx .gtr 3 true t6 (.int .i64 (.ofNat 200))) t6 (.int .i64 (.ofNat 200)) fun t7 =>
K.letK (fun (t8 : AV) (h9 : H) => K.letK (fun (t11 : AV) (h12 : H) => K.letK (fun (t14 : AV) (h15 : H) => K.pickK t7 (.bool true) t14 fun t17 =>
K.iteV t17 (
K.stK t2 .nilSlice h15 fun h18 =>
K.stK t4 (.int .i64 (.ofNat 13)) h18 fun h19 =>
K.unmarkK [] h19 fun h20 => K.asPtr t2 fun n21 n22 => K.load1 h20 n21 n22 fun t23 => K.asPtr t4 fun n24 n25 => K.load1 h20 n24 n25 fun t26 => .ok (.tup [t23, t26]) h20) (
K.eqK (K.binV ctx .eql 9 true t0 (.str [47])) t0 (.str [47]) fun t27 =>
K.iteV t27 (
K.stK t2 .nilSlice h15 fun h28 =>
K.stK t4 (.int .i64 (.ofNat 0)) h28 fun h29 =>
K.unmarkK [] h29 fun h30 => K.asPtr t2 fun n31 n32 => K.load1 h30 n31 n32 fun t33 => K.asPtr t4 fun n34 n35 => K.load1 h30 n34 n35 fun t36 => .ok (.tup [t33, t36]) h30) (
K.letK (fun (l37 : List AV) (m38 : List Nat) (h39 : H) => K.uncons l37 fun t41 l42 => K.uncons l42 fun t43 l44 => K.unnil l44 (
K.ldK ctx 311 t41 h39 fun t45 =>
K.stK t41 t45 h39 fun h46 =>
K.stK t43 (.int .i64 (.ofNat 0)) h46 fun h47 =>
K.unmarkK m38 h47 fun h48 => K.asPtr t41 fun n49 n50 => K.load1 h48 n49 n50 fun t51 => K.asPtr t43 fun n52 n53 => K.load1 h48 n52 n53 fun t54 => .ok (.tup [t51, t54]) h48)) fun j40 =>
K.slcK ctx 9 t0 (some (.int .i64 (.ofNat 1))) none none h15 fun t55 =>
K.callFK run 282 [t55] h15 fun t56 h57 =>
K.hNew h57 .marks fun r58 h59 => K.hNew h59 (.loop .ready none (K.mkT [2, 3, 17] [t2, t4, t56]) 4 r58) fun n60 h61 =>
K.rngK ctx run t56 n60 h61 (fun h63 => j40 [t2, t4] (r58 :: []) h63) (fun h64 => K.unmarkK (r58 :: []) h64 fun h67 => K.asPtr t2 fun n68 n69 => K.load1 h67 n68 n69 fun t70 => K.asPtr t4 fun n71 n72 => K.load1 h67 n71 n72 fun t73 => .ok (.tup [t70, t73]) h67) fun i62 h65 => (Bool.rec (motive := fun _ => K.KR) (.bad) (j40 [t2, t4] (r58 :: []) h65) (Nat.beq i62 0))))) fun j16 =>
K.guK false t7 (K.notK t11 fun t74 =>
j16 t74 h12) (j16 (.tup []) h12)) fun j13 =>
K.guK false t7 (K.callFK run 281 [t8, (.str [47])] h9 fun t75 h76 =>
j13 t75 h76) (j13 (.tup []) h9)) fun j10 =>
K.guK false t7 (j10 t0 h5) (j10 (.tup []) h5))
noncomputable def r209 : K.KRun → List AV → H → K.KR := fun run args h => K.uncons args fun t0 l1 => K.uncons l1 fun t2 l3 => K.unnil l3 (
K.letK (fun (l4 : List AV) (m5 : List Nat) (h6 : H) => K.uncons l4 fun t8 l9 => K.unnil l9 (
K.unmarkK m5 h6 fun h10 => .ok (.tup [t8, (.int .i64 (.ofNat 0))]) h10)) fun j7 =>
K.lenVK t0 fun t11 =>
K.loopV (nat_lit 1000000) (fun s15 l12 m13 h14 => K.uncons l12 fun t16 l17 => K.uncons l17 fun t18 l19 => K.uncons l19 fun t20 l21 => K.uncons l21 fun t22 l23 => K.uncons l23 fun t24 l25 => K.unnil l25 (
K.ltK (K.binV ctx .lss 3 false t24 t22) t24 t22 fun t26 =>
K.iteV t26 (
K.idxSK 1 t20 t24 fun t27 =>
K.ldK ctx 9 t27 h14 fun t28 =>
K.callVK run t16 [t18, t28] h14 fun t29 h30 =>
K.extK t29 0 fun t31 =>
K.extK t29 1 fun t32 =>
K.neK (K.binV ctx .neq 28 true t32 (.int .i64 (.ofNat 0))) t32 (.int .i64 (.ofNat 0)) fun t33 =>
K.iteV t33 (
K.unmarkK m13 h30 fun h34 => .ok (.tup [(.int .i64 (.ofNat 0)), t32]) h34) (
K.addK (K.binV ctx .add 3 true t24 (.int .i64 (.ofNat 1))) t24 (.int .i64 (.ofNat 1)) fun t35 =>
s15 [t16, t31, t20, t22, t35] m13 h30)) (
j7 [t18] m13 h14))) [t2, (.int .i64 (.ofNat 1)), t0, t11, (.int .i64 (.ofNat 0))] [] h)
noncomputable def r210 : K.KRun → List AV → H → K.KR := fun run args h => K.uncons args fun t0 l1 => K.uncons l1 fun t2 l3 => K.uncons l3 fun t4 l5 => K.unnil l5 (
K.boxK t0 h fun t6 h7 =>
K.fldK 0 t6 fun t8 =>
K.ldK ctx 43 t8 h7 fun t9 =>
K.fldK 1 t6 fun t10 =>
K.ldsK ctx 23 3 t10 h7 fun t11 =>
K.callFK run 284 [t9, t11, t2, t4] h7 fun t12 h13 =>
K.extK t12 0 fun t14 =>
K.extK t12 1 fun t15 =>
K.extK t12 2 fun t16 =>
K.allocK (K.zN ctx 248) (K.zT ctx 248) h13 fun t17 h18 =>
K.stsK 2 t17 t14 h18 fun h19 =>
K.fldK 1 t17 fun t20 =>
K.ldK ctx 3 t20 h19 fun t21 =>
K.unmarkK [] h19 fun h22 => .ok (.tup [t21, t16]) h22)
noncomputable def r211 : K.KRun → List AV → H → K.KR := fun run args h => K.uncons args fun t0 l1 => K.uncons l1 fun t2 l3 => K.uncons l3 fun t4 l5 => K.unnil l5 (
K.boxK t2 h fun t6 h7 =>
K.ldsK ctx 23 3 t6 h7 fun t8 =>
K.callFK run 285 [t0, t8, t4] h7 fun t9 h10 =>
K.extK t9 0 fun t11 =>
K.extK t9 1 fun t12 =>
K.extK t9 2 fun t13 =>
K.neK (K.binV ctx .neq 28 true t13 (.int .i64 (.ofNat 0))) t13 (.int .i64 (.ofNat 0)) fun t14 =>
K.iteV t14 (
K.unmarkK [] h10 fun h15 => .ok (.tup [(.int .i64 (.ofNat 0)), (.str []), t13]) h15) (
K.ldsK ctx 23 3 t6 h10 fun t16 =>
K.callFK run 284 [t0, t16, t11, t12] h10 fun t17 h18 =>
K.extK t17 0 fun t19 =>
K.extK t17 1 fun t20 =>
K.extK t17 2 fun t21 =>
K.allocK (K.zN ctx 248) (K.zT ctx 248) h18 fun t22 h23 =>
K.stsK 2 t22 t19 h23 fun h24 =>
K.eqK (K.binV ctx .eql 28 true t21 (.int .i64 (.ofNat 6))) t21 (.int .i64 (.ofNat 6)) fun t25 =>
K.iteV t25 (
K.unmarkK [] h24 fun h26 => .ok (.tup [t11, t12, (.int .i64 (.ofNat 0))]) h26) (
K.eqK (K.binV ctx .eql 28 true t21 (.int .i64 (.ofNat 0))) t21 (.int .i64 (.ofNat 0)) fun t27 =>
K.iteV t27 (
K.unmarkK [] h24 fun h28 => .ok (.tup [(.int .i64 (.ofNat 0)), (.str []), (.int .i64 (.ofNat 9))]) h28) (
K.unmarkK [] h24 fun h29 => .ok (.tup [(.int .i64 (.ofNat 0)), (.str []), t21]) h29))))
noncomputable def r212 : K.KRun → List AV → H → K.KR := fun run args h => K.uncons args fun t0 l1 => K.unnil l1 (
K.eqK (K.binV ctx .eql 304 true t0 .nilPtr) t0 .nilPtr fun t2 =>
K.iteV t2 (
K.unmarkK [] h fun h3 => .ok (.tup [(.int .i64 (.ofNat 0)), (.int .i64 (.ofNat 2))]) h3) (
K.nilK t0 fun t4 =>
K.fldK 4 t4 fun t5 =>
K.ldsK ctx 382 2 t5 h fun t6 =>
K.callFK run 286 [t0, t6, .nilFunc] h fun t7 h8 =>
K.extK t7 0 fun t9 =>
K.extK t7 1 fun t10 =>
K.unmarkK [] h8 fun h11 => .ok (.tup [t9, t10]) h11))
noncomputable def r213 : K.KRun → List AV → H → K.KR := fun run args h => K.uncons args fun t0 l1 => K.uncons l1 fun t2 l3 => K.uncons l3 fun t4 l5 => K.uncons l5 fun t6 l7 => K.unnil l7 (
K.ldK ctx 43 t0 h fun t8 =>
K.ldsK ctx 23 3 t2 h fun t9 =>
K.ldK ctx 3 t4 h fun t10 =>
K.ldsK ctx 230 10 t6 h fun t11 =>
K.callFK run 214 [t8, t9, t10, t11] h fun t12 h13 =>
K.unmarkK [] h13 fun h14 => .ok t12 h14)
end YtlmgehjkbgaknaaGreatDoorPlM
