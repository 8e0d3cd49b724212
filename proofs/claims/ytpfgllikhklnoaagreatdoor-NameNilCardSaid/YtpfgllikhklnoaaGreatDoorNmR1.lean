/- PRINTED BY Gen2.lean (own): functions as plain texts, part 1. -/
import Derived.Test.YtpfgllikhklnoaaGreatDoorNmCtx
namespace YtpfgllikhklnoaaGreatDoorNmM
open Go Am
set_option maxRecDepth 100000
noncomputable def r39 : K.KRun → List AV → H → K.KR := fun run args h => K.uncons args fun t0 l1 => K.uncons l1 fun t2 l3 => K.uncons l3 fun t4 l5 => K.unnil l5 (
K.boxK t2 h fun t6 h7 =>
K.ldsK ctx 23 3 t6 h7 fun t8 =>
K.callFK run 93 [t0, t8] h7 fun t9 h10 =>
K.extK t9 0 fun t11 =>
K.extK t9 1 fun t12 =>
K.allocK (K.zN ctx 130) (K.zT ctx 130) h10 fun t13 h14 =>
K.stsK 4 t13 t11 h14 fun h15 =>
K.neK (K.binV ctx .neq 24 true t12 (.int .i64 (.ofNat 0))) t12 (.int .i64 (.ofNat 0)) fun t16 =>
K.iteV t16 (
K.unmarkK [] h15 fun h17 => .ok (.tup [(.int .i64 (.ofNat 0)), t12]) h17) (
K.callFK run 94 [t4] h15 fun t18 h19 =>
K.extK t18 0 fun t20 =>
K.extK t18 1 fun t21 =>
K.neK (K.binV ctx .neq 24 true t21 (.int .i64 (.ofNat 0))) t21 (.int .i64 (.ofNat 0)) fun t22 =>
K.iteV t22 (
K.unmarkK [] h19 fun h23 => .ok (.tup [(.int .i64 (.ofNat 0)), t21]) h23) (
K.ldsK ctx 130 4 t13 h19 fun t24 =>
K.callFK run 95 [t20, (.func (.func 96) [t24] [])] h19 fun t25 h26 =>
K.extK t25 0 fun t27 =>
K.extK t25 1 fun t28 =>
K.unmarkK [] h26 fun h29 => .ok (.tup [t27, t28]) h29)))
noncomputable def r40 : K.KRun → List AV → H → K.KR := fun run args h => K.uncons args fun t0 l1 => K.uncons l1 fun t2 l3 => K.uncons l3 fun t4 l5 => K.unnil l5 (
K.boxK t2 h fun t6 h7 =>
K.allocK (K.zN ctx 58) (K.zT ctx 58) h7 fun t8 h9 =>
K.ldsK ctx 23 3 t6 h9 fun t10 =>
K.callFK run 84 [t0, t10, t4] h9 fun t11 h12 =>
K.extK t11 0 fun t13 =>
K.extK t11 1 fun t14 =>
K.neK (K.binV ctx .neq 24 true t14 (.int .i64 (.ofNat 0))) t14 (.int .i64 (.ofNat 0)) fun t15 =>
K.iteV t15 (
K.bldSK ctx 58 [] fun t16 =>
K.stsK 10 t8 t16 h12 fun h17 =>
K.unmarkK [] h17 fun h18 => K.asPtr t8 fun n19 n20 => K.loads h18 n19 n20 10 fun t21 => .ok (.tup [(.agg t21), t14]) h18) (
K.allocK (K.zN ctx 120) (K.zT ctx 120) h12 fun t22 h23 =>
K.letK (fun (l24 : List AV) (m25 : List Nat) (h26 : H) => K.uncons l24 fun t28 l29 => K.uncons l29 fun t30 l31 => K.uncons l31 fun t32 l33 => K.unnil l33 (
K.ldsK ctx 120 10 t32 h26 fun t34 =>
K.callFK run 97 [t34] h26 fun t35 h36 =>
K.allocK (K.zN ctx 58) (K.zT ctx 58) h36 fun t37 h38 =>
K.stsK 10 t37 t35 h38 fun h39 =>
K.ldsK ctx 23 3 t28 h39 fun t40 =>
K.ldsK ctx 58 10 t37 h39 fun t41 =>
K.callFK run 85 [t40, t41] h39 fun t42 h43 =>
K.notK t42 fun t44 =>
K.iteV t44 (
K.bldSK ctx 58 [] fun t45 =>
K.stsK 10 t30 t45 h43 fun h46 =>
K.unmarkK m25 h46 fun h47 => K.asPtr t30 fun n48 n49 => K.loads h47 n48 n49 10 fun t50 => .ok (.tup [(.agg t50), (.int .i64 (.ofNat 4))]) h47) (
K.ldsK ctx 58 10 t37 h43 fun t51 =>
K.stsK 10 t30 t51 h43 fun h52 =>
K.unmarkK m25 h52 fun h53 => K.asPtr t30 fun n54 n55 => K.loads h53 n54 n55 10 fun t56 => .ok (.tup [(.agg t56), (.int .i64 (.ofNat 0))]) h53))) fun j27 =>
K.loopV (nat_lit 1000000) (fun s60 l57 m58 h59 => K.uncons l57 fun t61 l62 => K.uncons l62 fun t63 l64 => K.uncons l64 fun t65 l66 => K.uncons l66 fun t67 l68 => K.uncons l68 fun t69 l70 => K.uncons l70 fun t71 l72 => K.unnil l72 (
K.ltK (K.binV ctx .lss 3 true t71 (.int .i64 (.ofNat 10))) t71 (.int .i64 (.ofNat 10)) fun t73 =>
K.iteV t73 (
K.addK (K.binV ctx .add 3 false t67 t71) t67 t71 fun t74 =>
K.callFK run 72 [t61, t74] h59 fun t75 h76 =>
K.idxAK 10 1 t69 t71 fun t77 =>
K.stK t77 t75 h76 fun h78 =>
K.addK (K.binV ctx .add 3 true t71 (.int .i64 (.ofNat 1))) t71 (.int .i64 (.ofNat 1)) fun t79 =>
s60 [t61, t63, t65, t67, t69, t79] m58 h78) (
j27 [t63, t65, t69] m58 h59))) [t0, t6, t8, t13, t22, (.int .i64 (.ofNat 0))] [] h23))
noncomputable def r41 : K.KRun → List AV → H → K.KR := fun run args h => K.uncons args fun t0 l1 => K.uncons l1 fun t2 l3 => K.uncons l3 fun t4 l5 => K.uncons l5 fun t6 l7 => K.uncons l7 fun t8 l9 => K.unnil l9 (
K.ldK ctx 29 t0 h fun t10 =>
K.ldsK ctx 23 3 t2 h fun t11 =>
K.ldK ctx 3 t4 h fun t12 =>
K.ldK ctx 9 t6 h fun t13 =>
K.ldK ctx 3 t8 h fun t14 =>
K.bldSK ctx 64 [(0, t13), (1, t14)] fun t15 =>
K.callFK run 32 [t10, t11, t12, t15] h fun t16 h17 =>
K.unmarkK [] h17 fun h18 => .ok t16 h18)
noncomputable def r42 : K.KRun → List AV → H → K.KR := fun run args h => K.uncons args fun t0 l1 => K.uncons l1 fun t2 l3 => K.uncons l3 fun t4 l5 => K.uncons l5 fun t6 l7 => K.unnil l7 (
K.ldK ctx 29 t0 h fun t8 =>
K.ldsK ctx 23 3 t2 h fun t9 =>
K.ldK ctx 3 t4 h fun t10 =>
K.fldK 1 t6 fun t11 =>
K.ldK ctx 27 t11 h fun t12 =>
K.addK (K.binV ctx .add 27 true t12 (.int .u64 (.ofNat 1))) t12 (.int .u64 (.ofNat 1)) fun t13 =>
K.callFK run 44 [t9, t10] h fun t14 h15 =>
K.ldK ctx 27 t11 h15 fun t16 =>
K.req (AV.same t12 t16) (
K.ldK ctx 29 t0 h15 fun t17 =>
K.req (AV.same t8 t17) (
K.addK (K.binV ctx .add 3 true t14 (.int .i64 (.ofNat 1))) t14 (.int .i64 (.ofNat 1)) fun t18 =>
K.callFK run 43 [t8, t18, t13] h15 fun t19 h20 =>
K.unmarkK [] h20 fun h21 => .ok t19 h21)))
noncomputable def r43 : K.KRun → List AV → H → K.KR := fun run args h => K.uncons args fun t0 l1 => K.uncons l1 fun t2 l3 => K.uncons l3 fun t4 l5 => K.unnil l5 (
K.eqK (K.binV ctx .eql 29 true t0 .nilPtr) t0 .nilPtr fun t6 =>
K.iteV t6 (
K.unmarkK [] h fun h7 => .ok (.int .i64 (.ofNat 2)) h7) (
K.letK (fun (l8 : List AV) (m9 : List Nat) (h10 : H) => K.uncons l8 fun t12 l13 => K.uncons l13 fun t14 l15 => K.uncons l15 fun t16 l17 => K.uncons l17 fun t18 l19 => K.unnil l19 (
K.iteV t18 (
K.unmarkK m9 h10 fun h20 => .ok (.int .i64 (.ofNat 8)) h20) (
K.callFK run 72 [t12, t14] h10 fun t21 h22 =>
K.eqK (K.binV ctx .eql 27 false t21 t16) t21 t16 fun t23 =>
K.iteV t23 (
K.unmarkK m9 h22 fun h24 => .ok (.int .i64 (.ofNat 0)) h24) (
K.callFK run 98 [t12, t14, t16] h22 fun t25 h26 =>
K.unmarkK m9 h26 fun h27 => .ok t25 h27)))) fun j11 =>
K.ltK (K.binV ctx .lss 3 true t2 (.int .i64 (.ofNat 0))) t2 (.int .i64 (.ofNat 0)) fun t28 =>
K.iteV t28 (
j11 [t0, t2, t4, t28] [] h) (
K.callFK run 78 [t0] h fun t29 h30 =>
K.geK (K.binV ctx .geq 3 false t2 t29) t2 t29 fun t31 =>
j11 [t0, t2, t4, t31] [] h30)))
noncomputable def r44 : K.KRun → List AV → H → K.KR := fun run args h => K.uncons args fun t0 l1 => K.uncons l1 fun t2 l3 => K.unnil l3 (
K.boxK t0 h fun t4 h5 =>
K.ldsK ctx 23 3 t4 h5 fun t6 =>
K.callFK run 99 [t6, (.int .u8 (.ofNat 8)), t2] h5 fun t7 h8 =>
K.unmarkK [] h8 fun h9 => .ok t7 h9)
noncomputable def r45 : K.KRun → List AV → H → K.KR := fun run args h => K.uncons args fun t0 l1 => K.uncons l1 fun t2 l3 => K.unnil l3 (
K.boxK t2 h fun t4 h5 =>
K.fldK 0 t4 fun t6 =>
K.ldK ctx 27 t6 h5 fun t7 =>
K.eqK (K.binV ctx .eql 27 true t7 (.int .u64 (.ofNat 2))) t7 (.int .u64 (.ofNat 2)) fun t8 =>
K.iteV t8 (
K.unmarkK [] h5 fun h9 => .ok (.int .i64 (.ofNat 11)) h9) (
K.unmarkK [] h5 fun h10 => .ok (.int .i64 (.ofNat 0)) h10))
noncomputable def r46 : K.KRun → List AV → H → K.KR := fun run args h => K.uncons args fun t0 l1 => K.uncons l1 fun t2 l3 => K.unnil l3 (
K.boxK t0 h fun t4 h5 =>
K.fldK 0 t4 fun t6 =>
K.ldK ctx 29 t6 h5 fun t7 =>
K.fldK 1 t4 fun t8 =>
K.ldsK ctx 23 3 t8 h5 fun t9 =>
K.callFK run 75 [t7, t9, t2] h5 fun t10 h11 =>
K.extK t10 0 fun t12 =>
K.extK t10 1 fun t13 =>
K.extK t10 2 fun t14 =>
K.allocK (K.zN ctx 3) (K.zT ctx 3) h11 fun t15 h16 =>
K.allocK (K.zN ctx 9) (K.zT ctx 9) h16 fun t17 h18 =>
K.stK t15 t12 h18 fun h19 =>
K.stK t17 t13 h19 fun h20 =>
K.neK (K.binV ctx .neq 24 true t14 (.int .i64 (.ofNat 0))) t14 (.int .i64 (.ofNat 0)) fun t21 =>
K.iteV t21 (
K.unmarkK [] h20 fun h22 => .ok t14 h22) (
K.fldK 0 t4 fun t23 =>
K.ldK ctx 29 t23 h20 fun t24 =>
K.fldK 1 t4 fun t25 =>
K.ldsK ctx 23 3 t25 h20 fun t26 =>
K.ldK ctx 3 t15 h20 fun t27 =>
K.ldK ctx 9 t17 h20 fun t28 =>
K.callFK run 76 [t24, t26, t27, t28] h20 fun t29 h30 =>
K.extK t29 0 fun t31 =>
K.extK t29 1 fun t32 =>
K.extK t29 2 fun t33 =>
K.allocK (K.zN ctx 64) (K.zT ctx 64) h30 fun t34 h35 =>
K.stsK 2 t34 t31 h35 fun h36 =>
K.neK (K.binV ctx .neq 24 true t33 (.int .i64 (.ofNat 0))) t33 (.int .i64 (.ofNat 0)) fun t37 =>
K.iteV t37 (
K.unmarkK [] h36 fun h38 => .ok t33 h38) (
K.fldK 0 t4 fun t39 =>
K.ldK ctx 29 t39 h36 fun t40 =>
K.fldK 1 t4 fun t41 =>
K.ldsK ctx 23 3 t41 h36 fun t42 =>
K.fldK 1 t34 fun t43 =>
K.ldK ctx 3 t43 h36 fun t44 =>
K.callFK run 40 [t40, t42, t44] h36 fun t45 h46 =>
K.extK t45 0 fun t47 =>
K.extK t45 1 fun t48 =>
K.allocK (K.zN ctx 58) (K.zT ctx 58) h46 fun t49 h50 =>
K.stsK 10 t49 t47 h50 fun h51 =>
K.neK (K.binV ctx .neq 24 true t48 (.int .i64 (.ofNat 0))) t48 (.int .i64 (.ofNat 0)) fun t52 =>
K.iteV t52 (
K.unmarkK [] h51 fun h53 => .ok t48 h53) (
K.bslK ctx 61 1 3 [(0, (.func (.func 100) [] [t4, t34, t49])), (1, (.func (.func 101) [] [t4, t15, t17])), (2, (.func (.func 103) [] [t4, t34]))] h51 fun t54 h55 =>
K.callFK run 28 [t54] h55 fun t56 h57 =>
K.unmarkK [] h57 fun h58 => .ok t56 h58))))
noncomputable def r47 : K.KRun → List AV → H → K.KR := fun run args h => K.uncons args fun t0 l1 => K.uncons l1 fun t2 l3 => K.uncons l3 fun t4 l5 => K.uncons l5 fun t6 l7 => K.unnil l7 (
K.boxK t2 h fun t8 h9 =>
K.fldK 0 t8 fun t10 =>
K.ldK ctx 27 t10 h9 fun t11 =>
K.neK (K.binV ctx .neq 27 true t11 (.int .u64 (.ofNat 2))) t11 (.int .u64 (.ofNat 2)) fun t12 =>
K.iteV t12 (
K.unmarkK [] h9 fun h13 => .ok (.int .i64 (.ofNat 10)) h13) (
K.ldK ctx 29 t4 h9 fun t14 =>
K.ldsK ctx 23 3 t6 h9 fun t15 =>
K.callFK run 48 [t14, t15, t0] h9 fun t16 h17 =>
K.extK t16 0 fun t18 =>
K.extK t16 1 fun t19 =>
K.letK (fun (l20 : List AV) (m21 : List Nat) (h22 : H) => K.uncons l20 fun t24 l25 => K.unnil l25 (
K.unmarkK m21 h22 fun h26 => .ok t24 h26)) fun j23 =>
K.eqK (K.binV ctx .eql 24 true t19 (.int .i64 (.ofNat 0))) t19 (.int .i64 (.ofNat 0)) fun t27 =>
K.letK (fun (t28 : AV) (h29 : H) => K.letK (fun (t31 : AV) (h32 : H) => K.letK (fun (t34 : AV) (h35 : H) => K.pickK t27 t34 (.bool false) fun t37 =>
K.iteV t37 (
j23 [(.int .i64 (.ofNat 12))] [] h35) (
j23 [t19] [] h35)) fun j36 =>
K.guK true t27 (K.gtK (K.binV ctx .gtr 3 true t31 (.int .i64 (.ofNat 0))) t31 (.int .i64 (.ofNat 0)) fun t38 =>
j36 t38 h32) (j36 (.tup []) h32)) fun j33 =>
K.guK true t27 (K.lenVK t28 fun t39 =>
j33 t39 h29) (j33 (.tup []) h29)) fun j30 =>
K.guK true t27 (j30 t18 h17) (j30 (.tup []) h17)))
noncomputable def r48 : K.KRun → List AV → H → K.KR := fun run args h => K.uncons args fun t0 l1 => K.uncons l1 fun t2 l3 => K.uncons l3 fun t4 l5 => K.unnil l5 (
K.boxK t2 h fun t6 h7 =>
K.allocK (K.zN ctx 82) (K.zT ctx 82) h7 fun t8 h9 =>
K.allocK (K.zN ctx 24) (K.zT ctx 24) h9 fun t10 h11 =>
K.ldsK ctx 23 3 t6 h11 fun t12 =>
K.callFK run 89 [t0, t12, t4] h11 fun t13 h14 =>
K.extK t13 0 fun t15 =>
K.extK t13 1 fun t16 =>
K.allocK (K.zN ctx 124) (K.zT ctx 124) h14 fun t17 h18 =>
K.stsK 5 t17 t15 h18 fun h19 =>
K.stK t10 t16 h19 fun h20 =>
K.ldK ctx 24 t10 h20 fun t21 =>
K.neK (K.binV ctx .neq 24 true t21 (.int .i64 (.ofNat 0))) t21 (.int .i64 (.ofNat 0)) fun t22 =>
K.iteV t22 (
K.ldK ctx 24 t10 h20 fun t23 =>
K.stK t8 .nilSlice h20 fun h24 =>
K.ldK ctx 24 t10 h24 fun t25 =>
K.req (AV.same t23 t25) (
K.stK t10 t23 h24 fun h26 =>
K.unmarkK [] h26 fun h27 => K.asPtr t8 fun n28 n29 => K.load1 h27 n28 n29 fun t30 => K.asPtr t10 fun n31 n32 => K.load1 h27 n31 n32 fun t33 => .ok (.tup [t30, t33]) h27)) (
K.letK (fun (l34 : List AV) (m35 : List Nat) (h36 : H) => K.uncons l34 fun t38 l39 => K.uncons l39 fun t40 l41 => K.unnil l41 (
K.ldK ctx 82 t38 h36 fun t42 =>
K.stK t38 t42 h36 fun h43 =>
K.stK t40 (.int .i64 (.ofNat 0)) h43 fun h44 =>
K.unmarkK m35 h44 fun h45 => K.asPtr t38 fun n46 n47 => K.load1 h45 n46 n47 fun t48 => K.asPtr t40 fun n49 n50 => K.load1 h45 n49 n50 fun t51 => .ok (.tup [t48, t51]) h45)) fun j37 =>
K.callFK run 104 [(.int .i64 (.ofNat 0))] h20 fun t52 h53 =>
K.hNew h53 .marks fun r54 h55 => K.hNew h55 (.loop .ready none (K.mkT [6, 7, 8, 22] [t8, t10, t17, t52]) 1 r54) fun n56 h57 =>
K.rngK ctx run t52 n56 h57 (fun h59 => j37 [t8, t10] (r54 :: []) h59) (fun h60 => K.unmarkK (r54 :: []) h60 fun h63 => K.asPtr t8 fun n64 n65 => K.load1 h63 n64 n65 fun t66 => K.asPtr t10 fun n67 n68 => K.load1 h63 n67 n68 fun t69 => .ok (.tup [t66, t69]) h63) fun i58 h61 => (Bool.rec (motive := fun _ => K.KR) (.bad) (j37 [t8, t10] (r54 :: []) h61) (Nat.beq i58 0))))
noncomputable def r49 : K.KRun → List AV → H → K.KR := fun run args h => K.uncons args fun t0 l1 => K.uncons l1 fun t2 l3 => K.uncons l3 fun t4 l5 => K.uncons l5 fun t6 l7 => K.unnil l7 (
K.ldK ctx 29 t0 h fun t8 =>
K.ldsK ctx 23 3 t2 h fun t9 =>
K.ldK ctx 3 t4 h fun t10 =>
K.fldK 1 t6 fun t11 =>
K.ldK ctx 27 t11 h fun t12 =>
K.subK (K.binV ctx .sub 27 true t12 (.int .u64 (.ofNat 1))) t12 (.int .u64 (.ofNat 1)) fun t13 =>
K.callFK run 44 [t9, t10] h fun t14 h15 =>
K.ldK ctx 27 t11 h15 fun t16 =>
K.req (AV.same t12 t16) (
K.ldK ctx 29 t0 h15 fun t17 =>
K.req (AV.same t8 t17) (
K.addK (K.binV ctx .add 3 true t14 (.int .i64 (.ofNat 1))) t14 (.int .i64 (.ofNat 1)) fun t18 =>
K.callFK run 43 [t8, t18, t13] h15 fun t19 h20 =>
K.unmarkK [] h20 fun h21 => .ok t19 h21)))
noncomputable def r50 : K.KRun → List AV → H → K.KR := fun run args h => K.uncons args fun t0 l1 => K.uncons l1 fun t2 l3 => K.uncons l3 fun t4 l5 => K.unnil l5 (
K.ldK ctx 29 t0 h fun t6 =>
K.ldsK ctx 23 3 t2 h fun t7 =>
K.ldK ctx 3 t4 h fun t8 =>
K.callFK run 14 [t6, t7, t8] h fun t9 h10 =>
K.unmarkK [] h10 fun h11 => .ok t9 h11)
noncomputable def r51 : K.KRun → List AV → H → K.KR := fun run args h => K.uncons args fun t0 l1 => K.uncons l1 fun t2 l3 => K.uncons l3 fun t4 l5 => K.unnil l5 (
K.boxK t2 h fun t6 h7 =>
K.ldsK ctx 23 3 t6 h7 fun t8 =>
K.callFK run 40 [t0, t8, t4] h7 fun t9 h10 =>
K.extK t9 0 fun t11 =>
K.extK t9 1 fun t12 =>
K.allocK (K.zN ctx 58) (K.zT ctx 58) h10 fun t13 h14 =>
K.stsK 10 t13 t11 h14 fun h15 =>
K.neK (K.binV ctx .neq 24 true t12 (.int .i64 (.ofNat 0))) t12 (.int .i64 (.ofNat 0)) fun t16 =>
K.iteV t16 (
K.unmarkK [] h15 fun h17 => .ok (.tup [.nilPtr, t12]) h17) (
K.ldsK ctx 23 3 t6 h15 fun t18 =>
K.bldSK ctx 149 [(0, t0), (1, t18), (2, t4)] fun t19 =>
K.boxK t19 h15 fun t20 h21 =>
K.unmarkK [] h21 fun h22 => .ok (.tup [t20, (.int .i64 (.ofNat 0))]) h22))
noncomputable def r52 : K.KRun → List AV → H → K.KR := fun run args h => K.uncons args fun t0 l1 => K.unnil l1 (
K.ldK ctx 85 t0 h fun t2 =>
K.callFK run 53 [t2, (.int .i64 (.ofNat 0))] h fun t3 h4 =>
K.unmarkK [] h4 fun h5 => .ok t3 h5)
noncomputable def r53 : K.KRun → List AV → H → K.KR := fun run args h => K.uncons args fun t0 l1 => K.uncons l1 fun t2 l3 => K.unnil l3 (
K.boxK t0 h fun t4 h5 =>
K.allocK (K.zN ctx 24) (K.zT ctx 24) h5 fun t6 h7 =>
K.ldK ctx 85 t4 h7 fun t8 =>
K.eqK (K.binV ctx .eql 85 true t8 .nilPtr) t8 .nilPtr fun t9 =>
K.iteV t9 (
K.stK t6 (.int .i64 (.ofNat 2)) h7 fun h10 =>
K.unmarkK [] h10 fun h11 => K.asPtr t6 fun n12 n13 => K.load1 h11 n12 n13 fun t14 => .ok t14 h11) (
K.letK (fun (l15 : List AV) (m16 : List Nat) (h17 : H) => K.uncons l15 fun t19 l20 => K.uncons l20 fun t21 l22 => K.uncons l22 fun t23 l24 => K.uncons l24 fun t25 l26 => K.unnil l26 (
K.iteV t25 (
K.stK t23 (.int .i64 (.ofNat 1)) h17 fun h27 =>
K.unmarkK m16 h27 fun h28 => K.asPtr t23 fun n29 n30 => K.load1 h28 n29 n30 fun t31 => .ok t31 h28) (
K.letK (fun (l32 : List AV) (m33 : List Nat) (h34 : H) => K.uncons l32 fun t36 l37 => K.unnil l37 (
K.stK t36 (.int .i64 (.ofNat 0)) h34 fun h38 =>
K.unmarkK m33 h38 fun h39 => K.asPtr t36 fun n40 n41 => K.load1 h39 n40 n41 fun t42 => .ok t42 h39)) fun j35 =>
K.callFK run 106 [t19] h17 fun t43 h44 =>
K.hNew h44 .marks fun r45 h46 => K.hNew h46 (.loop .ready none (K.mkT [2, 4, 16] [t21, t23, t43]) 2 r45) fun n47 h48 =>
K.rngK ctx run t43 n47 h48 (fun h50 => j35 [t23] (r45 :: m16) h50) (fun h51 => K.unmarkK (r45 :: m16) h51 fun h54 => K.asPtr t23 fun n55 n56 => K.load1 h54 n55 n56 fun t57 => .ok t57 h54) fun i49 h52 => (Bool.rec (motive := fun _ => K.KR) (.bad) (j35 [t23] (r45 :: m16) h52) (Nat.beq i49 1))))) fun j18 =>
K.ltK (K.binV ctx .lss 3 true t2 (.int .i64 (.ofNat 0))) t2 (.int .i64 (.ofNat 0)) fun t58 =>
K.iteV t58 (
j18 [t2, t4, t6, t58] [] h7) (
K.gtK (K.binV ctx .gtr 3 true t2 (.int .i64 (.ofNat 12))) t2 (.int .i64 (.ofNat 12)) fun t59 =>
j18 [t2, t4, t6, t59] [] h7)))
noncomputable def r54 : K.KRun → List AV → H → K.KR := fun run args h => K.uncons args fun t0 l1 => K.uncons l1 fun t2 l3 => K.uncons l3 fun t4 l5 => K.unnil l5 (
K.ldK ctx 29 t0 h fun t6 =>
K.ldsK ctx 23 3 t2 h fun t7 =>
K.ldK ctx 3 t4 h fun t8 =>
K.callFK run 55 [t6, t7, t8] h fun t9 h10 =>
K.unmarkK [] h10 fun h11 => .ok t9 h11)
noncomputable def r55 : K.KRun → List AV → H → K.KR := fun run args h => K.uncons args fun t0 l1 => K.uncons l1 fun t2 l3 => K.uncons l3 fun t4 l5 => K.unnil l5 (
K.boxK t2 h fun t6 h7 =>
K.ldsK ctx 23 3 t6 h7 fun t8 =>
K.callFK run 84 [t0, t8, t4] h7 fun t9 h10 =>
K.extK t9 0 fun t11 =>
K.extK t9 1 fun t12 =>
K.neK (K.binV ctx .neq 24 true t12 (.int .i64 (.ofNat 0))) t12 (.int .i64 (.ofNat 0)) fun t13 =>
K.iteV t13 (
K.unmarkK [] h10 fun h14 => .ok t12 h14) (
K.bldAK ctx 120 1 [] fun t15 =>
K.callFK run 86 [t0, t11, t15] h10 fun t16 h17 =>
K.unmarkK [] h17 fun h18 => .ok t16 h18))
noncomputable def r56 : K.KRun → List AV → H → K.KR := fun run args h => K.uncons args fun t0 l1 => K.uncons l1 fun t2 l3 => K.uncons l3 fun t4 l5 => K.unnil l5 (
K.ldK ctx 29 t0 h fun t6 =>
K.ldsK ctx 23 3 t2 h fun t7 =>
K.callFK run 26 [t6, t7] h fun t8 h9 =>
K.extK t8 0 fun t10 =>
K.extK t8 1 fun t11 =>
K.neK (K.binV ctx .neq 24 true t11 (.int .i64 (.ofNat 0))) t11 (.int .i64 (.ofNat 0)) fun t12 =>
K.iteV t12 (
K.unmarkK [] h9 fun h13 => .ok t11 h13) (
K.ldK ctx 3 t4 h9 fun t14 =>
K.callFK run 57 [t10, t14] h9 fun t15 h16 =>
K.unmarkK [] h16 fun h17 => .ok t15 h17))
noncomputable def r57 : K.KRun → List AV → H → K.KR := fun run args h => K.uncons args fun t0 l1 => K.uncons l1 fun t2 l3 => K.unnil l3 (
K.eqK (K.binV ctx .eql 52 true t0 .nilPtr) t0 .nilPtr fun t4 =>
K.iteV t4 (
K.unmarkK [] h fun h5 => .ok (.int .i64 (.ofNat 2)) h5) (
K.nilK t0 fun t6 =>
K.fldK 4 t6 fun t7 =>
K.ldsK ctx 112 2 t7 h fun t8 =>
K.callFK run 108 [t8, t2] h fun t9 h10 =>
K.unmarkK [] h10 fun h11 => .ok t9 h11))
noncomputable def r72 : K.KRun → List AV → H → K.KR := fun run args h => K.uncons args fun t0 l1 => K.uncons l1 fun t2 l3 => K.unnil l3 (
K.callFK run 115 [t0, t2] h fun t4 h5 =>
K.notK t4 fun t6 =>
K.iteV t6 (
K.unmarkK [] h5 fun h7 => .ok (.int .u64 (.ofNat 0)) h7) (
K.nilK t0 fun t8 =>
K.fldK 1 t8 fun t9 =>
K.ldK ctx 66 t9 h5 fun t10 =>
K.slowK ctx run (K.opAt Go.Proofs.Tryz.f72 3 5) [15, 16] [t10, t2] h5 fun t11 h12 =>
K.extK t11 0 fun t13 =>
K.extK t11 1 fun t14 =>
K.iteV t14 (
K.unmarkK [] h12 fun h15 => .ok t13 h15) (
K.nilK t0 fun t16 =>
K.fldK 0 t16 fun t17 =>
K.ldK ctx 31 t17 h12 fun t18 =>
K.idxSK 1 t18 t2 fun t19 =>
K.ldK ctx 27 t19 h12 fun t20 =>
K.unmarkK [] h12 fun h21 => .ok t20 h21)))
noncomputable def r75 : K.KRun → List AV → H → K.KR := fun run args h => K.uncons args fun t0 l1 => K.uncons l1 fun t2 l3 => K.uncons l3 fun t4 l5 => K.unnil l5 (
K.boxK t2 h fun t6 h7 =>
K.ldsK ctx 23 3 t6 h7 fun t8 =>
K.callFK run 93 [t0, t8] h7 fun t9 h10 =>
K.extK t9 0 fun t11 =>
K.extK t9 1 fun t12 =>
K.allocK (K.zN ctx 130) (K.zT ctx 130) h10 fun t13 h14 =>
K.stsK 4 t13 t11 h14 fun h15 =>
K.neK (K.binV ctx .neq 24 true t12 (.int .i64 (.ofNat 0))) t12 (.int .i64 (.ofNat 0)) fun t16 =>
K.iteV t16 (
K.unmarkK [] h15 fun h17 => .ok (.tup [(.int .i64 (.ofNat 0)), (.str []), t12]) h17) (
K.callFK run 94 [t4] h15 fun t18 h19 =>
K.extK t18 0 fun t20 =>
K.extK t18 1 fun t21 =>
K.letK (fun (l22 : List AV) (m23 : List Nat) (h24 : H) => K.uncons l22 fun t26 l27 => K.uncons l27 fun t28 l29 => K.uncons l29 fun t30 l31 => K.uncons l31 fun t32 l33 => K.uncons l33 fun t34 l35 => K.unnil l35 (
K.neK (K.binV ctx .neq 24 true t30 (.int .i64 (.ofNat 0))) t30 (.int .i64 (.ofNat 0)) fun t36 =>
K.iteV t36 (
K.unmarkK m23 h24 fun h37 => .ok (.tup [(.int .i64 (.ofNat 0)), (.str []), t30]) h37) (
K.lenVK t34 fun t38 =>
K.subK (K.binV ctx .sub 3 true t38 (.int .i64 (.ofNat 1))) t38 (.int .i64 (.ofNat 1)) fun t39 =>
K.slcK ctx 133 t34 none (some t39) none h24 fun t40 =>
K.ldsK ctx 130 4 t32 h24 fun t41 =>
K.callFK run 95 [t40, (.func (.func 96) [t41] [])] h24 fun t42 h43 =>
K.extK t42 0 fun t44 =>
K.extK t42 1 fun t45 =>
K.neK (K.binV ctx .neq 24 true t45 (.int .i64 (.ofNat 0))) t45 (.int .i64 (.ofNat 0)) fun t46 =>
K.iteV t46 (
K.unmarkK m23 h43 fun h47 => .ok (.tup [(.int .i64 (.ofNat 0)), (.str []), t45]) h47) (
K.ldsK ctx 23 3 t28 h43 fun t48 =>
K.callFK run 40 [t26, t48, t44] h43 fun t49 h50 =>
K.extK t49 0 fun t51 =>
K.extK t49 1 fun t52 =>
K.allocK (K.zN ctx 58) (K.zT ctx 58) h50 fun t53 h54 =>
K.stsK 10 t53 t51 h54 fun h55 =>
K.letK (fun (l56 : List AV) (m57 : List Nat) (h58 : H) => K.uncons l56 fun t60 l61 => K.uncons l61 fun t62 l63 => K.uncons l63 fun t64 l65 => K.uncons l65 fun t66 l67 => K.unnil l67 (
K.neK (K.binV ctx .neq 24 true t60 (.int .i64 (.ofNat 0))) t60 (.int .i64 (.ofNat 0)) fun t68 =>
K.iteV t68 (
K.unmarkK m57 h58 fun h69 => .ok (.tup [(.int .i64 (.ofNat 0)), (.str []), t60]) h69) (
K.idxSK 1 t62 t64 fun t70 =>
K.ldK ctx 9 t70 h58 fun t71 =>
K.unmarkK m57 h58 fun h72 => .ok (.tup [t66, t71, (.int .i64 (.ofNat 0))]) h72))) fun j59 =>
K.eqK (K.binV ctx .eql 24 true t52 (.int .i64 (.ofNat 0))) t52 (.int .i64 (.ofNat 0)) fun t73 =>
K.letK (fun (t74 : AV) (h75 : H) => K.letK (fun (t77 : AV) (h78 : H) => K.letK (fun (t80 : AV) (h81 : H) => K.pickK t73 t80 (.bool false) fun t83 =>
K.iteV t83 (
j59 [(.int .i64 (.ofNat 10)), t34, t39, t44] m23 h81) (
j59 [t52, t34, t39, t44] m23 h81)) fun j82 =>
K.guK true t73 (K.neK (K.binV ctx .neq 27 true t77 (.int .u64 (.ofNat 2))) t77 (.int .u64 (.ofNat 2)) fun t84 =>
j82 t84 h78) (j82 (.tup []) h78)) fun j79 =>
K.guK true t73 (K.ldK ctx 27 t74 h75 fun t85 =>
j79 t85 h75) (j79 (.tup []) h75)) fun j76 =>
K.guK true t73 (K.fldK 0 t53 fun t86 =>
j76 t86 h55) (j76 (.tup []) h55))))) fun j25 =>
K.eqK (K.binV ctx .eql 24 true t21 (.int .i64 (.ofNat 0))) t21 (.int .i64 (.ofNat 0)) fun t87 =>
K.letK (fun (t88 : AV) (h89 : H) => K.letK (fun (t91 : AV) (h92 : H) => K.letK (fun (t94 : AV) (h95 : H) => K.pickK t87 t94 (.bool false) fun t97 =>
K.iteV t97 (
j25 [t0, t6, (.int .i64 (.ofNat 13)), t13, t20] [] h95) (
j25 [t0, t6, t21, t13, t20] [] h95)) fun j96 =>
K.guK true t87 (K.eqK (K.binV ctx .eql 3 true t91 (.int .i64 (.ofNat 0))) t91 (.int .i64 (.ofNat 0)) fun t98 =>
j96 t98 h92) (j96 (.tup []) h92)) fun j93 =>
K.guK true t87 (K.lenVK t88 fun t99 =>
j93 t99 h89) (j93 (.tup []) h89)) fun j90 =>
K.guK true t87 (j90 t20 h19) (j90 (.tup []) h19)))
noncomputable def r76 : K.KRun → List AV → H → K.KR := fun run args h => K.uncons args fun t0 l1 => K.uncons l1 fun t2 l3 => K.uncons l3 fun t4 l5 => K.uncons l5 fun t6 l7 => K.unnil l7 (
K.boxK t2 h fun t8 h9 =>
K.allocK (K.zN ctx 64) (K.zT ctx 64) h9 fun t10 h11 =>
K.ldsK ctx 23 3 t8 h11 fun t12 =>
K.callFK run 89 [t0, t12, t4] h11 fun t13 h14 =>
K.extK t13 0 fun t15 =>
K.extK t13 1 fun t16 =>
K.allocK (K.zN ctx 124) (K.zT ctx 124) h14 fun t17 h18 =>
K.stsK 5 t17 t15 h18 fun h19 =>
K.neK (K.binV ctx .neq 24 true t16 (.int .i64 (.ofNat 0))) t16 (.int .i64 (.ofNat 0)) fun t20 =>
K.iteV t20 (
K.bldSK ctx 64 [] fun t21 =>
K.stsK 2 t10 t21 h19 fun h22 =>
K.unmarkK [] h22 fun h23 => K.asPtr t10 fun n24 n25 => K.loads h23 n24 n25 2 fun t26 => .ok (.tup [(.agg t26), (.int .i64 (.ofNat 0)), t16]) h23) (
K.ldsK ctx 124 5 t17 h19 fun t27 =>
K.callFK run 90 [t27, t6] h19 fun t28 h29 =>
K.extK t28 0 fun t30 =>
K.extK t28 1 fun t31 =>
K.extK t28 2 fun t32 =>
K.stsK 2 t10 t30 h29 fun h33 =>
K.unmarkK [] h33 fun h34 => K.asPtr t10 fun n35 n36 => K.loads h34 n35 n36 2 fun t37 => .ok (.tup [(.agg t37), t31, t32]) h34))
noncomputable def r77 : K.KRun → List AV → H → K.KR := fun run args h => K.uncons args fun t0 l1 => K.unnil l1 (
K.boxK t0 h fun t2 h3 =>
K.fldK 0 t2 fun t4 =>
K.ldK ctx 3 t4 h3 fun t5 =>
K.callFK run 117 [t5, (.int .i64 (.ofNat 1)), (.int .i64 (.ofNat 4))] h3 fun t6 h7 =>
K.letK (fun (t8 : AV) (h9 : H) => K.letK (fun (t11 : AV) (h12 : H) => K.letK (fun (t14 : AV) (h15 : H) => K.pickK t6 t14 (.bool false) fun t17 =>
K.letK (fun (t18 : AV) (h19 : H) => K.letK (fun (t21 : AV) (h22 : H) => K.letK (fun (t24 : AV) (h25 : H) => K.pickK t17 t24 (.bool false) fun t27 =>
K.unmarkK [] h25 fun h28 => .ok t27 h28) fun j26 =>
K.guK true t17 (K.callFK run 117 [t21, (.int .i64 (.ofNat 2)), (.int .i64 (.ofNat 512))] h22 fun t29 h30 =>
j26 t29 h30) (j26 (.tup []) h22)) fun j23 =>
K.guK true t17 (K.ldK ctx 3 t18 h19 fun t31 =>
j23 t31 h19) (j23 (.tup []) h19)) fun j20 =>
K.guK true t17 (K.fldK 2 t2 fun t32 =>
j20 t32 h15) (j20 (.tup []) h15)) fun j16 =>
K.guK true t6 (K.callFK run 117 [t11, (.int .i64 (.ofNat 2)), (.int .i64 (.ofNat 64))] h12 fun t33 h34 =>
j16 t33 h34) (j16 (.tup []) h12)) fun j13 =>
K.guK true t6 (K.ldK ctx 3 t8 h9 fun t35 =>
j13 t35 h9) (j13 (.tup []) h9)) fun j10 =>
K.guK true t6 (K.fldK 1 t2 fun t36 =>
j10 t36 h7) (j10 (.tup []) h7))
noncomputable def r78 : K.KRun → List AV → H → K.KR := fun run args h => K.uncons args fun t0 l1 => K.unnil l1 (
K.eqK (K.binV ctx .eql 29 true t0 .nilPtr) t0 .nilPtr fun t2 =>
K.iteV t2 (
K.unmarkK [] h fun h3 => .ok (.int .i64 (.ofNat 0)) h3) (
K.nilK t0 fun t4 =>
K.fldK 0 t4 fun t5 =>
K.ldK ctx 31 t5 h fun t6 =>
K.lenVK t6 fun t7 =>
K.unmarkK [] h fun h8 => .ok t7 h8))
noncomputable def r79 : K.KRun → List AV → H → K.KR := fun run args h => K.uncons args fun t0 l1 => K.unnil l1 (
K.boxK t0 h fun t2 h3 =>
K.ldsK ctx 23 3 t2 h3 fun t4 =>
K.callFK run 77 [t4] h3 fun t5 h6 =>
K.notK t5 fun t7 =>
K.iteV t7 (
K.unmarkK [] h6 fun h8 => .ok (.int .i64 (.ofNat 0)) h8) (
K.letK (fun (l9 : List AV) (m10 : List Nat) (h11 : H) => K.uncons l9 fun t13 l14 => K.unnil l14 (
K.unmarkK m10 h11 fun h15 => .ok t13 h15)) fun j12 =>
K.ldsK ctx 23 3 t2 h6 fun t16 =>
K.callFK run 118 [t16] h6 fun t17 h18 =>
K.loopV (nat_lit 1000000) (fun s22 l19 m20 h21 => K.uncons l19 fun t23 l24 => K.uncons l24 fun t25 l26 => K.uncons l26 fun t27 l28 => K.unnil l28 (
K.ltK (K.binV ctx .lss 3 true t27 (.int .i64 (.ofNat 7))) t27 (.int .i64 (.ofNat 7)) fun t29 =>
K.iteV t29 (
K.idxK ctx 159 3 7 t25 t27 fun t30 =>
K.allocK (K.zN ctx 159) (K.zT ctx 159) h21 fun t31 h32 =>
K.stsK 3 t31 t30 h32 fun h33 =>
K.fldK 1 t31 fun t34 =>
K.ldK ctx 3 t34 h33 fun t35 =>
K.fldK 2 t31 fun t36 =>
K.ldK ctx 3 t36 h33 fun t37 =>
K.mulK (K.binV ctx .mul 3 false t35 t37) t35 t37 fun t38 =>
K.addK (K.binV ctx .add 3 false t23 t38) t23 t38 fun t39 =>
K.addK (K.binV ctx .add 3 true t27 (.int .i64 (.ofNat 1))) t27 (.int .i64 (.ofNat 1)) fun t40 =>
s22 [t39, t25, t40] m20 h33) (
j12 [t23] m20 h21))) [(.int .i64 (.ofNat 0)), t17, (.int .i64 (.ofNat 0))] [] h18))
noncomputable def r80 : K.KRun → List AV → H → K.KR := fun run args h => K.uncons args fun t0 l1 => K.uncons l1 fun t2 l3 => K.uncons l3 fun t4 l5 => K.unnil l5 (
K.eqK (K.binV ctx .eql 29 true t0 .nilPtr) t0 .nilPtr fun t6 =>
K.iteV t6 (
K.unmarkK [] h fun h7 => .ok (.tup [.nilPtr, (.int .i64 (.ofNat 2))]) h7) (
K.ltK (K.binV ctx .lss 3 true t4 (.int .i64 (.ofNat 1))) t4 (.int .i64 (.ofNat 1)) fun t8 =>
K.iteV t8 (
K.unmarkK [] h fun h9 => .ok (.tup [.nilPtr, (.int .i64 (.ofNat 1))]) h9) (
K.letK (fun (l10 : List AV) (m11 : List Nat) (h12 : H) => K.uncons l10 fun t14 l15 => K.uncons l15 fun t16 l17 => K.uncons l17 fun t18 l19 => K.uncons l19 fun t20 l21 => K.unnil l21 (
K.iteV t20 (
K.unmarkK m11 h12 fun h22 => .ok (.tup [.nilPtr, (.int .i64 (.ofNat 8))]) h22) (
K.bldSK ctx 163 [(0, t14), (1, t16), (2, t18)] fun t23 =>
K.boxK t23 h12 fun t24 h25 =>
K.unmarkK m11 h25 fun h26 => .ok (.tup [t24, (.int .i64 (.ofNat 0))]) h26))) fun j13 =>
K.ltK (K.binV ctx .lss 3 true t2 (.int .i64 (.ofNat 0))) t2 (.int .i64 (.ofNat 0)) fun t27 =>
K.iteV t27 (
j13 [t0, t2, t4, t27] [] h) (
K.callFK run 78 [t0] h fun t28 h29 =>
K.geK (K.binV ctx .geq 3 false t2 t28) t2 t28 fun t30 =>
K.iteV t30 (
j13 [t0, t2, t4, t30] [] h29) (
K.subK (K.binV ctx .sub 3 true t4 (.int .i64 (.ofNat 1))) t4 (.int .i64 (.ofNat 1)) fun t31 =>
K.oK (K.binV ctx .quo 3 true t31 (.int .i64 (.ofNat 64))) fun t32 =>
K.callFK run 78 [t0] h29 fun t33 h34 =>
K.subK (K.binV ctx .sub 3 false t33 t2) t33 t2 fun t35 =>
K.geK (K.binV ctx .geq 3 false t32 t35) t32 t35 fun t36 =>
j13 [t0, t2, t4, t36] [] h34)))))
noncomputable def r81 : K.KRun → List AV → H → K.KR := fun run args h => K.uncons args fun t0 l1 => K.unnil l1 (
K.boxK t0 h fun t2 h3 =>
K.ldsK ctx 23 3 t2 h3 fun t4 =>
K.callFK run 99 [t4, (.int .u8 (.ofNat 6)), (.int .i64 (.ofNat 0))] h3 fun t5 h6 =>
K.unmarkK [] h6 fun h7 => .ok t5 h7)
noncomputable def r82 : K.KRun → List AV → H → K.KR := fun run args h => K.uncons args fun t0 l1 => K.unnil l1 (
K.boxK t0 h fun t2 h3 =>
K.ldsK ctx 23 3 t2 h3 fun t4 =>
K.callFK run 99 [t4, (.int .u8 (.ofNat 7)), (.int .i64 (.ofNat 0))] h3 fun t5 h6 =>
K.unmarkK [] h6 fun h7 => .ok t5 h7)
noncomputable def r83 : K.KRun → List AV → H → K.KR := fun run args h => K.uncons args fun t0 l1 => K.uncons l1 fun t2 l3 => K.uncons l3 fun t4 l5 => K.unnil l5 (
K.boxK t2 h fun t6 h7 =>
K.fldK 0 t6 fun t8 =>
K.ldK ctx 108 t8 h7 fun t9 =>
K.callFK run 119 [t9] h7 fun t10 h11 =>
K.extK t10 0 fun t12 =>
K.extK t10 1 fun t13 =>
K.notK t13 fun t14 =>
K.iteV t14 (
K.unmarkK [] h11 fun h15 => .ok (.tup [(.int .i64 (.ofNat 0)), (.int .i64 (.ofNat 7))]) h15) (
K.fldK 0 t6 fun t16 =>
K.ldK ctx 108 t16 h11 fun t17 =>
K.callFK run 120 [t17, t12, (.bool true)] h11 fun t18 h19 =>
K.letK (fun (l20 : List AV) (m21 : List Nat) (h22 : H) => K.uncons l20 fun t24 l25 => K.uncons l25 fun t26 l27 => K.unnil l27 (
K.neK (K.binV ctx .neq 24 true t26 (.int .i64 (.ofNat 0))) t26 (.int .i64 (.ofNat 0)) fun t28 =>
K.iteV t28 (
K.unmarkK m21 h22 fun h29 => .ok (.tup [(.int .i64 (.ofNat 0)), t26]) h29) (
K.unmarkK m21 h22 fun h30 => .ok (.tup [t24, (.int .i64 (.ofNat 0))]) h30))) fun j23 =>
K.eqK (K.binV ctx .eql 24 true t18 (.int .i64 (.ofNat 0))) t18 (.int .i64 (.ofNat 0)) fun t31 =>
K.letK (fun (t32 : AV) (h33 : H) => K.letK (fun (t35 : AV) (h36 : H) => K.pickK t31 t35 (.bool false) fun t38 =>
K.iteV t38 (
K.callVK run t4 [t12] h36 fun t39 h40 =>
K.callFK run 121 [t0, t39] h40 fun t41 h42 =>
j23 [t12, t41] [] h42) (
j23 [t12, t18] [] h36)) fun j37 =>
K.guK true t31 (K.neK (K.binV ctx .neq 164 true t32 .nilFunc) t32 .nilFunc fun t43 =>
j37 t43 h33) (j37 (.tup []) h33)) fun j34 =>
K.guK true t31 (j34 t4 h19) (j34 (.tup []) h19)))
noncomputable def r84 : K.KRun → List AV → H → K.KR := fun run args h => K.uncons args fun t0 l1 => K.uncons l1 fun t2 l3 => K.uncons l3 fun t4 l5 => K.unnil l5 (
K.boxK t2 h fun t6 h7 =>
K.ldsK ctx 23 3 t6 h7 fun t8 =>
K.callFK run 44 [t8, t4] h7 fun t9 h10 =>
K.eqK (K.binV ctx .eql 29 true t0 .nilPtr) t0 .nilPtr fun t11 =>
K.iteV t11 (
K.unmarkK [] h10 fun h12 => .ok (.tup [(.int .i64 (.ofNat 0)), (.int .i64 (.ofNat 2))]) h12) (
K.letK (fun (l13 : List AV) (m14 : List Nat) (h15 : H) => K.uncons l13 fun t17 l18 => K.uncons l18 fun t19 l20 => K.uncons l20 fun t21 l22 => K.uncons l22 fun t23 l24 => K.unnil l24 (
K.iteV t23 (
K.unmarkK m14 h15 fun h25 => .ok (.tup [(.int .i64 (.ofNat 0)), (.int .i64 (.ofNat 1))]) h25) (
K.ldsK ctx 23 3 t19 h15 fun t26 =>
K.callFK run 78 [t17] h15 fun t27 h28 =>
K.ldsK ctx 23 3 t19 h28 fun t29 =>
K.req (AV.same t26 t29) (
K.callFK run 79 [t26] h28 fun t30 h31 =>
K.ltK (K.binV ctx .lss 3 false t27 t30) t27 t30 fun t32 =>
K.iteV t32 (
K.unmarkK m14 h31 fun h33 => .ok (.tup [(.int .i64 (.ofNat 0)), (.int .i64 (.ofNat 8))]) h33) (
K.unmarkK m14 h31 fun h34 => .ok (.tup [t21, (.int .i64 (.ofNat 0))]) h34))))) fun j16 =>
K.ltK (K.binV ctx .lss 3 true t9 (.int .i64 (.ofNat 0))) t9 (.int .i64 (.ofNat 0)) fun t35 =>
K.iteV t35 (
j16 [t0, t6, t9, t35] [] h10) (
K.eqK (K.binV ctx .eql 3 true t4 (.int .i64 (.ofNat 0))) t4 (.int .i64 (.ofNat 0)) fun t36 =>
j16 [t0, t6, t9, t36] [] h10)))
noncomputable def r85 : K.KRun → List AV → H → K.KR := fun run args h => K.uncons args fun t0 l1 => K.uncons l1 fun t2 l3 => K.unnil l3 (
K.boxK t0 h fun t4 h5 =>
K.boxK t2 h5 fun t6 h7 =>
K.ldsK ctx 23 3 t4 h7 fun t8 =>
K.callFK run 77 [t8] h7 fun t9 h10 =>
K.notK t9 fun t11 =>
K.letK (fun (t12 : AV) (h13 : H) => K.letK (fun (t15 : AV) (h16 : H) => K.letK (fun (t18 : AV) (h19 : H) => K.pickK t11 (.bool true) t18 fun t21 =>
K.iteV t21 (
K.unmarkK [] h19 fun h22 => .ok (.bool false) h22) (
K.fldK 4 t6 fun t23 =>
K.slcK ctx 56 t23 none none none h19 fun t24 =>
K.fldK 8 t6 fun t25 =>
K.ldK ctx 27 t25 h19 fun t26 =>
K.bslK ctx 27 1 1 [(0, t26)] h19 fun t27 h28 =>
K.appK ctx 27 1 t24 t27 h28 fun t29 h30 =>
K.fldK 2 t4 fun t31 =>
K.ldK ctx 3 t31 h30 fun t32 =>
K.rK (convA ctx 3 27 t32 h30) fun t33 h34 =>
K.callFK run 122 [t29] h34 fun t35 h36 =>
K.ldK ctx 3 t31 h36 fun t37 =>
K.req (AV.same t32 t37) (
K.geK (K.binV ctx .geq 27 false t35 t33) t35 t33 fun t38 =>
K.letK (fun (t39 : AV) (h40 : H) => K.letK (fun (t42 : AV) (h43 : H) => K.letK (fun (t45 : AV) (h46 : H) => K.letK (fun (t48 : AV) (h49 : H) => K.letK (fun (t51 : AV) (h52 : H) => K.letK (fun (t54 : AV) (h55 : H) => K.pickK t38 (.bool true) t54 fun t57 =>
K.iteV t57 (
K.unmarkK [] h55 fun h58 => .ok (.bool false) h58) (
K.fldK 1 t6 fun t59 =>
K.ldK ctx 27 t59 h55 fun t60 =>
K.gtK (K.binV ctx .gtr 27 true t60 (.int .u64 (.ofNat 65536))) t60 (.int .u64 (.ofNat 65536)) fun t61 =>
K.letK (fun (t62 : AV) (h63 : H) => K.letK (fun (t65 : AV) (h66 : H) => K.letK (fun (t68 : AV) (h69 : H) => K.pickK t61 (.bool true) t68 fun t71 =>
K.letK (fun (t72 : AV) (h73 : H) => K.letK (fun (t75 : AV) (h76 : H) => K.letK (fun (t78 : AV) (h79 : H) => K.pickK t71 (.bool true) t78 fun t81 =>
K.iteV t81 (
K.unmarkK [] h79 fun h82 => .ok (.bool false) h82) (
K.fldK 0 t6 fun t83 =>
K.ldK ctx 27 t83 h79 fun t84 =>
K.eqK (K.binV ctx .eql 27 true t84 (.int .u64 (.ofNat 1))) t84 (.int .u64 (.ofNat 1)) fun t85 =>
K.iteV t85 (
K.fldK 9 t6 fun t86 =>
K.ldK ctx 27 t86 h79 fun t87 =>
K.eqK (K.binV ctx .eql 27 true t87 (.int .u64 (.ofNat 0))) t87 (.int .u64 (.ofNat 0)) fun t88 =>
K.unmarkK [] h79 fun h89 => .ok t88 h89) (
K.eqK (K.binV ctx .eql 27 true t84 (.int .u64 (.ofNat 2))) t84 (.int .u64 (.ofNat 2)) fun t90 =>
K.iteV t90 (
K.fldK 3 t6 fun t91 =>
K.ldK ctx 27 t91 h79 fun t92 =>
K.eqK (K.binV ctx .eql 27 true t92 (.int .u64 (.ofNat 0))) t92 (.int .u64 (.ofNat 0)) fun t93 =>
K.unmarkK [] h79 fun h94 => .ok t93 h94) (
K.unmarkK [] h79 fun h95 => .ok (.bool false) h95)))) fun j80 =>
K.guK false t71 (K.gtK (K.binV ctx .gtr 27 true t75 (.int .u64 (.ofNat 768))) t75 (.int .u64 (.ofNat 768)) fun t96 =>
j80 t96 h76) (j80 (.tup []) h76)) fun j77 =>
K.guK false t71 (K.ldK ctx 27 t72 h73 fun t97 =>
j77 t97 h73) (j77 (.tup []) h73)) fun j74 =>
K.guK false t71 (K.fldK 3 t6 fun t98 =>
j74 t98 h69) (j74 (.tup []) h69)) fun j70 =>
K.guK false t61 (K.gtK (K.binV ctx .gtr 27 true t65 (.int .u64 (.ofNat 16))) t65 (.int .u64 (.ofNat 16)) fun t99 =>
j70 t99 h66) (j70 (.tup []) h66)) fun j67 =>
K.guK false t61 (K.ldK ctx 27 t62 h63 fun t100 =>
j67 t100 h63) (j67 (.tup []) h63)) fun j64 =>
K.guK false t61 (K.fldK 2 t6 fun t101 =>
j64 t101 h55) (j64 (.tup []) h55))) fun j56 =>
K.guK false t38 (K.geK (K.binV ctx .geq 27 false t42 t51) t42 t51 fun t102 =>
j56 t102 h52) (j56 (.tup []) h52)) fun j53 =>
K.guK false t38 (K.rK (convA ctx 3 27 t48 h49) fun t103 h104 =>
j53 t103 h104) (j53 (.tup []) h49)) fun j50 =>
K.guK false t38 (K.ldK ctx 3 t45 h46 fun t105 =>
j50 t105 h46) (j50 (.tup []) h46)) fun j47 =>
K.guK false t38 (K.fldK 1 t4 fun t106 =>
j47 t106 h43) (j47 (.tup []) h43)) fun j44 =>
K.guK false t38 (K.ldK ctx 27 t39 h40 fun t107 =>
j44 t107 h40) (j44 (.tup []) h40)) fun j41 =>
K.guK false t38 (K.fldK 9 t6 fun t108 =>
j41 t108 h36) (j41 (.tup []) h36)))) fun j20 =>
K.guK false t11 (K.eqK (K.binV ctx .eql 58 false t12 t15) t12 t15 fun t109 =>
j20 t109 h16) (j20 (.tup []) h16)) fun j17 =>
K.guK false t11 (K.bldSK ctx 58 [] fun t110 =>
j17 t110 h13) (j17 (.tup []) h13)) fun j14 =>
K.guK false t11 (K.ldsK ctx 58 10 t6 h10 fun t111 =>
j14 t111 h10) (j14 (.tup []) h10))
noncomputable def r86 : K.KRun → List AV → H → K.KR := fun run args h => K.uncons args fun t0 l1 => K.uncons l1 fun t2 l3 => K.uncons l3 fun t4 l5 => K.unnil l5 (
K.boxK t4 h fun t6 h7 =>
K.letK (fun (l8 : List AV) (m9 : List Nat) (h10 : H) => K.unnil l8 (
K.unmarkK m9 h10 fun h12 => .ok (.int .i64 (.ofNat 0)) h12)) fun j11 =>
K.ldsK ctx 120 10 t6 h7 fun t13 =>
K.loopV (nat_lit 1000000) (fun s17 l14 m15 h16 => K.uncons l14 fun t18 l19 => K.uncons l19 fun t20 l21 => K.uncons l21 fun t22 l23 => K.uncons l23 fun t24 l25 => K.unnil l25 (
K.ltK (K.binV ctx .lss 3 true t24 (.int .i64 (.ofNat 10))) t24 (.int .i64 (.ofNat 10)) fun t26 =>
K.iteV t26 (
K.idxK ctx 27 1 10 t22 t24 fun t27 =>
K.addK (K.binV ctx .add 3 false t20 t24) t20 t24 fun t28 =>
K.callFK run 43 [t18, t28, t27] h16 fun t29 h30 =>
K.neK (K.binV ctx .neq 24 true t29 (.int .i64 (.ofNat 0))) t29 (.int .i64 (.ofNat 0)) fun t31 =>
K.iteV t31 (
K.unmarkK m15 h30 fun h32 => .ok t29 h32) (
K.addK (K.binV ctx .add 3 true t24 (.int .i64 (.ofNat 1))) t24 (.int .i64 (.ofNat 1)) fun t33 =>
s17 [t18, t20, t22, t33] m15 h30)) (
j11 [] m15 h16))) [t0, t2, t13, (.int .i64 (.ofNat 0))] [] h7)
noncomputable def r87 : K.KRun → List AV → H → K.KR := fun run args h => K.uncons args fun t0 l1 => K.unnil l1 (
K.boxK t0 h fun t2 h3 =>
K.allocK (K.zN ctx 120) (K.zT ctx 120) h3 fun t4 h5 =>
K.fldK 0 t2 fun t6 =>
K.ldK ctx 27 t6 h5 fun t7 =>
K.fldK 1 t2 fun t8 =>
K.ldK ctx 27 t8 h5 fun t9 =>
K.fldK 2 t2 fun t10 =>
K.ldK ctx 27 t10 h5 fun t11 =>
K.fldK 3 t2 fun t12 =>
K.ldK ctx 27 t12 h5 fun t13 =>
K.fldK 8 t2 fun t14 =>
K.ldK ctx 27 t14 h5 fun t15 =>
K.fldK 9 t2 fun t16 =>
K.ldK ctx 27 t16 h5 fun t17 =>
K.bldAK ctx 120 1 [(0, t7), (1, t9), (2, t11), (3, t13), (8, t15), (9, t17)] fun t18 =>
K.allocK (K.zN ctx 120) (K.zT ctx 120) h5 fun t19 h20 =>
K.stsK 10 t19 t18 h20 fun h21 =>
K.slcK ctx 120 t19 (some (.int .i64 (.ofNat 4))) none none h21 fun t22 =>
K.fldK 4 t2 fun t23 =>
K.slcK ctx 56 t23 none none none h21 fun t24 =>
K.slowK ctx run (K.opAt Go.Proofs.Tryz.f87 2 3) [17, 19] [t22, t24] h21 fun t25 h26 =>
K.ldsK ctx 120 10 t19 h26 fun t27 =>
K.stsK 10 t4 t27 h26 fun h28 =>
K.unmarkK [] h28 fun h29 => K.asPtr t4 fun n30 n31 => K.loads h29 n30 n31 10 fun t32 => .ok (.agg t32) h29)
noncomputable def r88 : K.KRun → List AV → H → K.KR := fun run args h => K.uncons args fun t0 l1 => K.uncons l1 fun t2 l3 => K.uncons l3 fun t4 l5 => K.unnil l5 (
K.boxK t2 h fun t6 h7 =>
K.boxK t4 h7 fun t8 h9 =>
K.eqK (K.binV ctx .eql 29 true t0 .nilPtr) t0 .nilPtr fun t10 =>
K.iteV t10 (
K.unmarkK [] h9 fun h11 => .ok (.int .i64 (.ofNat 2)) h11) (
K.letK (fun (l12 : List AV) (m13 : List Nat) (h14 : H) => K.uncons l12 fun t16 l17 => K.unnil l17 (
K.iteV t16 (
K.unmarkK m13 h14 fun h18 => .ok (.int .i64 (.ofNat 1)) h18) (
K.unmarkK m13 h14 fun h19 => .ok (.int .i64 (.ofNat 0)) h19))) fun j15 =>
K.fldK 1 t8 fun t20 =>
K.ldK ctx 3 t20 h9 fun t21 =>
K.ltK (K.binV ctx .lss 3 true t21 (.int .i64 (.ofNat 1))) t21 (.int .i64 (.ofNat 1)) fun t22 =>
K.iteV t22 (
j15 [t22] [] h9) (
K.fldK 1 t8 fun t23 =>
K.ldK ctx 3 t23 h9 fun t24 =>
K.fldK 1 t6 fun t25 =>
K.ldK ctx 3 t25 h9 fun t26 =>
K.geK (K.binV ctx .geq 3 false t24 t26) t24 t26 fun t27 =>
j15 [t27] [] h9)))
noncomputable def r89 : K.KRun → List AV → H → K.KR := fun run args h => K.uncons args fun t0 l1 => K.uncons l1 fun t2 l3 => K.uncons l3 fun t4 l5 => K.unnil l5 (
K.boxK t2 h fun t6 h7 =>
K.allocK (K.zN ctx 124) (K.zT ctx 124) h7 fun t8 h9 =>
K.ldsK ctx 23 3 t6 h9 fun t10 =>
K.callFK run 40 [t0, t10, t4] h9 fun t11 h12 =>
K.extK t11 0 fun t13 =>
K.extK t11 1 fun t14 =>
K.allocK (K.zN ctx 58) (K.zT ctx 58) h12 fun t15 h16 =>
K.stsK 10 t15 t13 h16 fun h17 =>
K.letK (fun (l18 : List AV) (m19 : List Nat) (h20 : H) => K.uncons l18 fun t22 l23 => K.uncons l23 fun t24 l25 => K.uncons l25 fun t26 l27 => K.uncons l27 fun t28 l29 => K.uncons l29 fun t30 l31 => K.unnil l31 (
K.neK (K.binV ctx .neq 24 true t30 (.int .i64 (.ofNat 0))) t30 (.int .i64 (.ofNat 0)) fun t32 =>
K.iteV t32 (
K.bldSK ctx 124 [] fun t33 =>
K.stsK 5 t28 t33 h20 fun h34 =>
K.unmarkK m19 h34 fun h35 => K.asPtr t28 fun n36 n37 => K.loads h35 n36 n37 5 fun t38 => .ok (.tup [(.agg t38), t30]) h35) (
K.ldsK ctx 23 3 t26 h20 fun t39 =>
K.callFK run 51 [t22, t39, t24] h20 fun t40 h41 =>
K.extK t40 0 fun t42 =>
K.extK t40 1 fun t43 =>
K.ldsK ctx 23 3 t26 h41 fun t44 =>
K.bldSK ctx 124 [(0, t22), (1, t44), (2, t42)] fun t45 =>
K.stsK 5 t28 t45 h41 fun h46 =>
K.unmarkK m19 h46 fun h47 => K.asPtr t28 fun n48 n49 => K.loads h47 n48 n49 5 fun t50 => .ok (.tup [(.agg t50), t43]) h47))) fun j21 =>
K.eqK (K.binV ctx .eql 24 true t14 (.int .i64 (.ofNat 0))) t14 (.int .i64 (.ofNat 0)) fun t51 =>
K.letK (fun (t52 : AV) (h53 : H) => K.letK (fun (t55 : AV) (h56 : H) => K.letK (fun (t58 : AV) (h59 : H) => K.pickK t51 t58 (.bool false) fun t61 =>
K.iteV t61 (
j21 [t0, t4, t6, t8, (.int .i64 (.ofNat 10))] [] h59) (
j21 [t0, t4, t6, t8, t14] [] h59)) fun j60 =>
K.guK true t51 (K.neK (K.binV ctx .neq 27 true t55 (.int .u64 (.ofNat 2))) t55 (.int .u64 (.ofNat 2)) fun t62 =>
j60 t62 h56) (j60 (.tup []) h56)) fun j57 =>
K.guK true t51 (K.ldK ctx 27 t52 h53 fun t63 =>
j57 t63 h53) (j57 (.tup []) h53)) fun j54 =>
K.guK true t51 (K.fldK 0 t15 fun t64 =>
j54 t64 h17) (j54 (.tup []) h17))
noncomputable def r90 : K.KRun → List AV → H → K.KR := fun run args h => K.uncons args fun t0 l1 => K.uncons l1 fun t2 l3 => K.unnil l3 (
K.boxK t0 h fun t4 h5 =>
K.boxK t2 h5 fun t6 h7 =>
K.allocK (K.zN ctx 64) (K.zT ctx 64) h7 fun t8 h9 =>
K.allocK (K.zN ctx 3) (K.zT ctx 3) h9 fun t10 h11 =>
K.allocK (K.zN ctx 24) (K.zT ctx 24) h11 fun t12 h13 =>
K.ldK ctx 9 t6 h13 fun t14 =>
K.callFK run 123 [t14] h13 fun t15 h16 =>
K.notK t15 fun t17 =>
K.iteV t17 (
K.bldSK ctx 64 [] fun t18 =>
K.stsK 2 t8 t18 h16 fun h19 =>
K.stK t10 (.int .i64 (.ofNat 0)) h19 fun h20 =>
K.stK t12 (.int .i64 (.ofNat 13)) h20 fun h21 =>
K.unmarkK [] h21 fun h22 => K.asPtr t8 fun n23 n24 => K.loads h22 n23 n24 2 fun t25 => K.asPtr t10 fun n26 n27 => K.load1 h22 n26 n27 fun t28 => K.asPtr t12 fun n29 n30 => K.load1 h22 n29 n30 fun t31 => .ok (.tup [(.agg t25), t28, t31]) h22) (
K.letK (fun (l32 : List AV) (m33 : List Nat) (h34 : H) => K.uncons l32 fun t36 l37 => K.uncons l37 fun t38 l39 => K.uncons l39 fun t40 l41 => K.unnil l41 (
K.bldSK ctx 64 [] fun t42 =>
K.stsK 2 t36 t42 h34 fun h43 =>
K.stK t38 (.int .i64 (.ofNat 0)) h43 fun h44 =>
K.stK t40 (.int .i64 (.ofNat 6)) h44 fun h45 =>
K.unmarkK m33 h45 fun h46 => K.asPtr t36 fun n47 n48 => K.loads h46 n47 n48 2 fun t49 => K.asPtr t38 fun n50 n51 => K.load1 h46 n50 n51 fun t52 => K.asPtr t40 fun n53 n54 => K.load1 h46 n53 n54 fun t55 => .ok (.tup [(.agg t49), t52, t55]) h46)) fun j35 =>
K.ldK ctx 9 t6 h16 fun t56 =>
K.callFK run 124 [t56] h16 fun t57 h58 =>
K.callFK run 104 [t57] h58 fun t59 h60 =>
K.hNew h60 .marks fun r61 h62 => K.hNew h62 (.loop .ready none (K.mkT [2, 3, 4, 5, 6, 16] [t4, t6, t8, t10, t12, t59]) 3 r61) fun n63 h64 =>
K.rngK ctx run t59 n63 h64 (fun h66 => j35 [t8, t10, t12] (r61 :: []) h66) (fun h67 => K.unmarkK (r61 :: []) h67 fun h70 => K.asPtr t8 fun n71 n72 => K.loads h70 n71 n72 2 fun t73 => K.asPtr t10 fun n74 n75 => K.load1 h70 n74 n75 fun t76 => K.asPtr t12 fun n77 n78 => K.load1 h70 n77 n78 fun t79 => .ok (.tup [(.agg t73), t76, t79]) h70) fun i65 h68 => (Bool.rec (motive := fun _ => K.KR) (.bad) (j35 [t8, t10, t12] (r61 :: []) h68) (Nat.beq i65 0))))
noncomputable def r91 : K.KRun → List AV → H → K.KR := fun run args h => K.uncons args fun t0 l1 => K.uncons l1 fun t2 l3 => K.unnil l3 (
K.boxK t0 h fun t4 h5 =>
K.boxK t2 h5 fun t6 h7 =>
K.allocK (K.zN ctx 24) (K.zT ctx 24) h7 fun t8 h9 =>
K.letK (fun (l10 : List AV) (m11 : List Nat) (h12 : H) => K.uncons l10 fun t14 l15 => K.unnil l15 (
K.stK t14 (.int .i64 (.ofNat 16)) h12 fun h16 =>
K.unmarkK m11 h16 fun h17 => K.asPtr t14 fun n18 n19 => K.load1 h17 n18 n19 fun t20 => .ok t20 h17)) fun j13 =>
K.fldK 0 t6 fun t21 =>
K.ldK ctx 9 t21 h9 fun t22 =>
K.callFK run 124 [t22] h9 fun t23 h24 =>
K.callFK run 104 [t23] h24 fun t25 h26 =>
K.hNew h26 .marks fun r27 h28 => K.hNew h28 (.loop .ready none (K.mkT [2, 3, 4, 16] [t4, t6, t8, t25]) 4 r27) fun n29 h30 =>
K.rngK ctx run t25 n29 h30 (fun h32 => j13 [t8] (r27 :: []) h32) (fun h33 => K.unmarkK (r27 :: []) h33 fun h36 => K.asPtr t8 fun n37 n38 => K.load1 h36 n37 n38 fun t39 => .ok t39 h36) fun i31 h34 => (Bool.rec (motive := fun _ => K.KR) (.bad) (j13 [t8] (r27 :: []) h34) (Nat.beq i31 0)))
noncomputable def r92 : K.KRun → List AV → H → K.KR := fun run args h => K.uncons args fun t0 l1 => K.unnil l1 (
K.boxK t0 h fun t2 h3 =>
K.fldK 0 t2 fun t4 =>
K.ldK ctx 3 t4 h3 fun t5 =>
K.mulK (K.binV ctx .mul 3 true (.int .i64 (.ofNat 208)) t5) (.int .i64 (.ofNat 208)) t5 fun t6 =>
K.callFK run 129 [] h3 fun t7 h8 =>
K.ldK ctx 3 t4 h8 fun t9 =>
K.req (AV.same t5 t9) (
K.addK (K.binV ctx .add 3 false t7 t6) t7 t6 fun t10 =>
K.unmarkK [] h8 fun h11 => .ok t10 h11))
end YtpfgllikhklnoaaGreatDoorNmM
