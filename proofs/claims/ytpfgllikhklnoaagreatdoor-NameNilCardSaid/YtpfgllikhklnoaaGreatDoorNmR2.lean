/- PRINTED BY Gen2.lean (own): functions as plain texts, part 2. -/
import Derived.Test.YtpfgllikhklnoaaGreatDoorNmCtx
namespace YtpfgllikhklnoaaGreatDoorNmM
open Go Am
set_option maxRecDepth 100000
noncomputable def r93 : K.KRun → List AV → H → K.KR := fun run args h => K.uncons args fun t0 l1 => K.uncons l1 fun t2 l3 => K.unnil l3 (
K.boxK t2 h fun t4 h5 =>
K.allocK (K.zN ctx 130) (K.zT ctx 130) h5 fun t6 h7 =>
K.eqK (K.binV ctx .eql 29 true t0 .nilPtr) t0 .nilPtr fun t8 =>
K.iteV t8 (
K.bldSK ctx 130 [] fun t9 =>
K.stsK 4 t6 t9 h7 fun h10 =>
K.unmarkK [] h10 fun h11 => K.asPtr t6 fun n12 n13 => K.loads h11 n12 n13 4 fun t14 => .ok (.tup [(.agg t14), (.int .i64 (.ofNat 2))]) h11) (
K.ldsK ctx 23 3 t4 h7 fun t15 =>
K.callFK run 77 [t15] h7 fun t16 h17 =>
K.notK t16 fun t18 =>
K.iteV t18 (
K.bldSK ctx 130 [] fun t19 =>
K.stsK 4 t6 t19 h17 fun h20 =>
K.unmarkK [] h20 fun h21 => K.asPtr t6 fun n22 n23 => K.loads h21 n22 n23 4 fun t24 => .ok (.tup [(.agg t24), (.int .i64 (.ofNat 1))]) h21) (
K.ldsK ctx 23 3 t4 h17 fun t25 =>
K.callFK run 78 [t0] h17 fun t26 h27 =>
K.ldsK ctx 23 3 t4 h27 fun t28 =>
K.req (AV.same t25 t28) (
K.callFK run 79 [t25] h27 fun t29 h30 =>
K.ltK (K.binV ctx .lss 3 false t26 t29) t26 t29 fun t31 =>
K.iteV t31 (
K.bldSK ctx 130 [] fun t32 =>
K.stsK 4 t6 t32 h30 fun h33 =>
K.unmarkK [] h33 fun h34 => K.asPtr t6 fun n35 n36 => K.loads h34 n35 n36 4 fun t37 => .ok (.tup [(.agg t37), (.int .i64 (.ofNat 8))]) h34) (
K.ldsK ctx 23 3 t4 h30 fun t38 =>
K.bldSK ctx 130 [(0, t0), (1, t38)] fun t39 =>
K.stsK 4 t6 t39 h30 fun h40 =>
K.unmarkK [] h40 fun h41 => K.asPtr t6 fun n42 n43 => K.loads h41 n42 n43 4 fun t44 => .ok (.tup [(.agg t44), (.int .i64 (.ofNat 0))]) h41)))))
noncomputable def r94 : K.KRun → List AV → H → K.KR := fun run args h => K.uncons args fun t0 l1 => K.unnil l1 (
K.allocK (K.zN ctx 133) (K.zT ctx 133) h fun t2 h3 =>
K.allocK (K.zN ctx 24) (K.zT ctx 24) h3 fun t4 h5 =>
K.lenTK t0 fun t6 =>
K.gtK (K.binV ctx .gtr 3 true t6 (.int .i64 (.ofNat 200))) t6 (.int .i64 (.ofNat 200)) fun t7 =>
K.letK (fun (t8 : AV) (h9 : H) => K.letK (fun (t11 : AV) (h12 : H) => K.letK (fun (t14 : AV) (h15 : H) => K.pickK t7 (.bool true) t14 fun t17 =>
K.iteV t17 (
K.stK t2 .nilSlice h15 fun h18 =>
K.stK t4 (.int .i64 (.ofNat 13)) h18 fun h19 =>
K.unmarkK [] h19 fun h20 => K.asPtr t2 fun n21 n22 => K.load1 h20 n21 n22 fun t23 => K.asPtr t4 fun n24 n25 => K.load1 h20 n24 n25 fun t26 => .ok (.tup [t23, t26]) h20) (
K.eqK (K.binV ctx .eql 9 true t0 (.str [47])) t0 (.str [47]) fun t27 =>
K.iteV t27 (
K.stK t2 .nilSlice h15 fun h28 =>
K.stK t4 (.int .i64 (.ofNat 0)) h28 fun h29 =>
K.unmarkK [] h29 fun h30 => K.asPtr t2 fun n31 n32 => K.load1 h30 n31 n32 fun t33 => K.asPtr t4 fun n34 n35 => K.load1 h30 n34 n35 fun t36 => .ok (.tup [t33, t36]) h30) (
K.letK (fun (l37 : List AV) (m38 : List Nat) (h39 : H) => K.uncons l37 fun t41 l42 => K.uncons l42 fun t43 l44 => K.unnil l44 (
K.ldK ctx 133 t41 h39 fun t45 =>
K.stK t41 t45 h39 fun h46 =>
K.stK t43 (.int .i64 (.ofNat 0)) h46 fun h47 =>
K.unmarkK m38 h47 fun h48 => K.asPtr t41 fun n49 n50 => K.load1 h48 n49 n50 fun t51 => K.asPtr t43 fun n52 n53 => K.load1 h48 n52 n53 fun t54 => .ok (.tup [t51, t54]) h48)) fun j40 =>
K.slcK ctx 9 t0 (some (.int .i64 (.ofNat 1))) none none h15 fun t55 =>
K.callFK run 131 [t55] h15 fun t56 h57 =>
K.hNew h57 .marks fun r58 h59 => K.hNew h59 (.loop .ready none (K.mkT [2, 3, 17] [t2, t4, t56]) 5 r58) fun n60 h61 =>
K.rngK ctx run t56 n60 h61 (fun h63 => j40 [t2, t4] (r58 :: []) h63) (fun h64 => K.unmarkK (r58 :: []) h64 fun h67 => K.asPtr t2 fun n68 n69 => K.load1 h67 n68 n69 fun t70 => K.asPtr t4 fun n71 n72 => K.load1 h67 n71 n72 fun t73 => .ok (.tup [t70, t73]) h67) fun i62 h65 => (Bool.rec (motive := fun _ => K.KR) (.bad) (j40 [t2, t4] (r58 :: []) h65) (Nat.beq i62 0))))) fun j16 =>
K.guK false t7 (K.notK t11 fun t74 =>
j16 t74 h12) (j16 (.tup []) h12)) fun j13 =>
K.guK false t7 (K.callFK run 130 [t8, (.str [47])] h9 fun t75 h76 =>
j13 t75 h76) (j13 (.tup []) h9)) fun j10 =>
K.guK false t7 (j10 t0 h5) (j10 (.tup []) h5))
noncomputable def r95 : K.KRun → List AV → H → K.KR := fun run args h => K.uncons args fun t0 l1 => K.uncons l1 fun t2 l3 => K.unnil l3 (
K.letK (fun (l4 : List AV) (m5 : List Nat) (h6 : H) => K.uncons l4 fun t8 l9 => K.unnil l9 (
K.unmarkK m5 h6 fun h10 => .ok (.tup [t8, (.int .i64 (.ofNat 0))]) h10)) fun j7 =>
K.lenVK t0 fun t11 =>
K.loopV (nat_lit 1000000) (fun s15 l12 m13 h14 => K.uncons l12 fun t16 l17 => K.uncons l17 fun t18 l19 => K.uncons l19 fun t20 l21 => K.uncons l21 fun t22 l23 => K.uncons l23 fun t24 l25 => K.unnil l25 (
K.ltK (K.binV ctx .lss 3 false t24 t22) t24 t22 fun t26 =>
K.iteV t26 (
K.idxSK 1 t20 t24 fun t27 =>
K.ldK ctx 9 t27 h14 fun t28 =>
K.callVK run t16 [t18, t28] h14 fun t29 h30 =>
K.extK t29 0 fun t31 =>
K.extK t29 1 fun t32 =>
K.neK (K.binV ctx .neq 24 true t32 (.int .i64 (.ofNat 0))) t32 (.int .i64 (.ofNat 0)) fun t33 =>
K.iteV t33 (
K.unmarkK m13 h30 fun h34 => .ok (.tup [(.int .i64 (.ofNat 0)), t32]) h34) (
K.addK (K.binV ctx .add 3 true t24 (.int .i64 (.ofNat 1))) t24 (.int .i64 (.ofNat 1)) fun t35 =>
s15 [t16, t31, t20, t22, t35] m13 h30)) (
j7 [t18] m13 h14))) [t2, (.int .i64 (.ofNat 1)), t0, t11, (.int .i64 (.ofNat 0))] [] h)
noncomputable def r96 : K.KRun → List AV → H → K.KR := fun run args h => K.uncons args fun t0 l1 => K.uncons l1 fun t2 l3 => K.uncons l3 fun t4 l5 => K.unnil l5 (
K.boxK t0 h fun t6 h7 =>
K.fldK 0 t6 fun t8 =>
K.ldK ctx 29 t8 h7 fun t9 =>
K.fldK 1 t6 fun t10 =>
K.ldsK ctx 23 3 t10 h7 fun t11 =>
K.callFK run 76 [t9, t11, t2, t4] h7 fun t12 h13 =>
K.extK t12 0 fun t14 =>
K.extK t12 1 fun t15 =>
K.extK t12 2 fun t16 =>
K.allocK (K.zN ctx 64) (K.zT ctx 64) h13 fun t17 h18 =>
K.stsK 2 t17 t14 h18 fun h19 =>
K.fldK 1 t17 fun t20 =>
K.ldK ctx 3 t20 h19 fun t21 =>
K.unmarkK [] h19 fun h22 => .ok (.tup [t21, t16]) h22)
noncomputable def r97 : K.KRun → List AV → H → K.KR := fun run args h => K.uncons args fun t0 l1 => K.unnil l1 (
K.boxK t0 h fun t2 h3 =>
K.allocK (K.zN ctx 58) (K.zT ctx 58) h3 fun t4 h5 =>
K.idxAK 10 1 t2 (.int .i64 (.ofNat 0)) fun t6 =>
K.ldK ctx 27 t6 h5 fun t7 =>
K.idxAK 10 1 t2 (.int .i64 (.ofNat 1)) fun t8 =>
K.ldK ctx 27 t8 h5 fun t9 =>
K.idxAK 10 1 t2 (.int .i64 (.ofNat 2)) fun t10 =>
K.ldK ctx 27 t10 h5 fun t11 =>
K.idxAK 10 1 t2 (.int .i64 (.ofNat 3)) fun t12 =>
K.ldK ctx 27 t12 h5 fun t13 =>
K.slcK ctx 120 t2 (some (.int .i64 (.ofNat 4))) (some (.int .i64 (.ofNat 8))) none h5 fun t14 =>
K.slowK ctx run (K.opAt Go.Proofs.Tryz.f97 1 9) [11] [t14] h5 fun t15 h16 =>
K.ldsK ctx 56 4 t15 h16 fun t17 =>
K.idxAK 10 1 t2 (.int .i64 (.ofNat 8)) fun t18 =>
K.ldK ctx 27 t18 h16 fun t19 =>
K.idxAK 10 1 t2 (.int .i64 (.ofNat 9)) fun t20 =>
K.ldK ctx 27 t20 h16 fun t21 =>
K.bldSK ctx 58 [(0, t7), (1, t9), (2, t11), (3, t13), (4, t17), (5, t19), (6, t21)] fun t22 =>
K.stsK 10 t4 t22 h16 fun h23 =>
K.unmarkK [] h23 fun h24 => K.asPtr t4 fun n25 n26 => K.loads h24 n25 n26 10 fun t27 => .ok (.agg t27) h24)
noncomputable def r98 : K.KRun → List AV → H → K.KR := fun run args h => K.uncons args fun t0 l1 => K.uncons l1 fun t2 l3 => K.uncons l3 fun t4 l5 => K.unnil l5 (
K.eqK (K.binV ctx .eql 29 true t0 .nilPtr) t0 .nilPtr fun t6 =>
K.iteV t6 (
K.unmarkK [] h fun h7 => .ok (.int .i64 (.ofNat 2)) h7) (
K.callFK run 115 [t0, t2] h fun t8 h9 =>
K.notK t8 fun t10 =>
K.iteV t10 (
K.unmarkK [] h9 fun h11 => .ok (.int .i64 (.ofNat 8)) h11) (
K.letK (fun (l12 : List AV) (m13 : List Nat) (h14 : H) => K.uncons l12 fun t16 l17 => K.uncons l17 fun t18 l19 => K.uncons l19 fun t20 l21 => K.unnil l21 (
K.nilK t16 fun t22 =>
K.fldK 1 t22 fun t23 =>
K.ldK ctx 66 t23 h14 fun t24 =>
K.slowK ctx run (K.opAt Go.Proofs.Tryz.f98 10 6) [45, 46, 47] [t24, t18, t20] h14 fun t25 h26 =>
K.unmarkK m13 h26 fun h27 => .ok (.int .i64 (.ofNat 0)) h27)) fun j15 =>
K.nilK t0 fun t28 =>
K.fldK 1 t28 fun t29 =>
K.ldK ctx 66 t29 h9 fun t30 =>
K.slowK ctx run (K.opAt Go.Proofs.Tryz.f98 5 5) [19, 20] [t30, t2] h9 fun t31 h32 =>
K.extK t31 0 fun t33 =>
K.extK t31 1 fun t34 =>
K.notK t34 fun t35 =>
K.iteV t35 (
K.nilK t0 fun t36 =>
K.fldK 2 t36 fun t37 =>
K.ldK ctx 67 t37 h32 fun t38 =>
K.lenVK t38 fun t39 =>
K.geK (K.binV ctx .geq 3 true t39 (.int .i64 (.ofNat 96))) t39 (.int .i64 (.ofNat 96)) fun t40 =>
K.iteV t40 (
K.unmarkK [] h32 fun h41 => .ok (.int .i64 (.ofNat 5)) h41) (
K.nilK t0 fun t42 =>
K.fldK 2 t42 fun t43 =>
K.ldK ctx 67 t43 h32 fun t44 =>
K.bslK ctx 3 1 1 [(0, t2)] h32 fun t45 h46 =>
K.appK ctx 3 1 t44 t45 h46 fun t47 h48 =>
K.nilK t0 fun t49 =>
K.fldK 2 t49 fun t50 =>
K.stK t50 t47 h48 fun h51 =>
j15 [t0, t2, t4] [] h51)) (
j15 [t0, t2, t4] [] h32))))
noncomputable def r99 : K.KRun → List AV → H → K.KR := fun run args h => K.uncons args fun t0 l1 => K.uncons l1 fun t2 l3 => K.uncons l3 fun t4 l5 => K.unnil l5 (
K.boxK t0 h fun t6 h7 =>
K.letK (fun (l8 : List AV) (m9 : List Nat) (h10 : H) => K.unnil l8 (
K.unmarkK m9 h10 fun h12 => .ok (.int .i64 (.negSucc 0)) h12)) fun j11 =>
K.ldsK ctx 23 3 t6 h7 fun t13 =>
K.callFK run 118 [t13] h7 fun t14 h15 =>
K.loopV (nat_lit 1000000) (fun s19 l16 m17 h18 => K.uncons l16 fun t20 l21 => K.uncons l21 fun t22 l23 => K.uncons l23 fun t24 l25 => K.uncons l25 fun t26 l27 => K.uncons l27 fun t28 l29 => K.uncons l29 fun t30 l31 => K.unnil l31 (
K.ltK (K.binV ctx .lss 3 true t30 (.int .i64 (.ofNat 7))) t30 (.int .i64 (.ofNat 7)) fun t32 =>
K.iteV t32 (
K.idxK ctx 159 3 7 t28 t30 fun t33 =>
K.allocK (K.zN ctx 159) (K.zT ctx 159) h18 fun t34 h35 =>
K.stsK 3 t34 t33 h35 fun h36 =>
K.fldK 0 t34 fun t37 =>
K.ldK ctx 141 t37 h36 fun t38 =>
K.neK (K.binV ctx .neq 141 false t38 t20) t38 t20 fun t39 =>
K.iteV t39 (
K.fldK 1 t34 fun t40 =>
K.ldK ctx 3 t40 h36 fun t41 =>
K.fldK 2 t34 fun t42 =>
K.ldK ctx 3 t42 h36 fun t43 =>
K.mulK (K.binV ctx .mul 3 false t41 t43) t41 t43 fun t44 =>
K.addK (K.binV ctx .add 3 false t26 t44) t26 t44 fun t45 =>
K.addK (K.binV ctx .add 3 true t30 (.int .i64 (.ofNat 1))) t30 (.int .i64 (.ofNat 1)) fun t46 =>
s19 [t20, t22, t24, t45, t28, t46] m17 h36) (
K.ldsK ctx 23 3 t24 h36 fun t47 =>
K.callFK run 77 [t47] h36 fun t48 h49 =>
K.letK (fun (t50 : AV) (h51 : H) => K.letK (fun (t53 : AV) (h54 : H) => K.letK (fun (t56 : AV) (h57 : H) => K.letK (fun (t59 : AV) (h60 : H) => K.letK (fun (t62 : AV) (h63 : H) => K.pickK t48 t62 (.bool false) fun t65 =>
K.iteV t65 (
K.fldK 1 t34 fun t66 =>
K.ldK ctx 3 t66 h63 fun t67 =>
K.mulK (K.binV ctx .mul 3 false t67 t22) t67 t22 fun t68 =>
K.addK (K.binV ctx .add 3 false t26 t68) t26 t68 fun t69 =>
K.unmarkK m17 h63 fun h70 => .ok t69 h70) (
j11 [] m17 h63)) fun j64 =>
K.guK true t48 (K.callFK run 117 [t50, (.int .i64 (.ofNat 0)), t59] h60 fun t71 h72 =>
j64 t71 h72) (j64 (.tup []) h60)) fun j61 =>
K.guK true t48 (K.subK (K.binV ctx .sub 3 true t56 (.int .i64 (.ofNat 1))) t56 (.int .i64 (.ofNat 1)) fun t73 =>
j61 t73 h57) (j61 (.tup []) h57)) fun j58 =>
K.guK true t48 (K.ldK ctx 3 t53 h54 fun t74 =>
j58 t74 h54) (j58 (.tup []) h54)) fun j55 =>
K.guK true t48 (K.fldK 2 t34 fun t75 =>
j55 t75 h51) (j55 (.tup []) h51)) fun j52 =>
K.guK true t48 (j52 t22 h49) (j52 (.tup []) h49))) (
j11 [] m17 h18))) [t2, t4, t6, (.int .i64 (.ofNat 0)), t14, (.int .i64 (.ofNat 0))] [] h15)
noncomputable def r100 : K.KRun → List AV → H → K.KR := fun run args h => K.uncons args fun t0 l1 => K.uncons l1 fun t2 l3 => K.uncons l3 fun t4 l5 => K.unnil l5 (
K.fldK 4 t0 fun t6 =>
K.ldK ctx 78 t6 h fun t7 =>
K.fldK 1 t2 fun t8 =>
K.ldK ctx 3 t8 h fun t9 =>
K.ldsK ctx 58 10 t4 h fun t10 =>
K.callVK run t7 [t9, t10] h fun t11 h12 =>
K.unmarkK [] h12 fun h13 => .ok t11 h13)
noncomputable def r101 : K.KRun → List AV → H → K.KR := fun run args h => K.uncons args fun t0 l1 => K.uncons l1 fun t2 l3 => K.uncons l3 fun t4 l5 => K.unnil l5 (
K.fldK 0 t0 fun t6 =>
K.ldK ctx 29 t6 h fun t7 =>
K.fldK 1 t0 fun t8 =>
K.ldsK ctx 23 3 t8 h fun t9 =>
K.ldK ctx 3 t2 h fun t10 =>
K.ldK ctx 9 t4 h fun t11 =>
K.callFK run 102 [t7, t9, t10, t11] h fun t12 h13 =>
K.unmarkK [] h13 fun h14 => .ok t12 h14)
noncomputable def r102 : K.KRun → List AV → H → K.KR := fun run args h => K.uncons args fun t0 l1 => K.uncons l1 fun t2 l3 => K.uncons l3 fun t4 l5 => K.uncons l5 fun t6 l7 => K.unnil l7 (
K.boxK t2 h fun t8 h9 =>
K.ldsK ctx 23 3 t8 h9 fun t10 =>
K.callFK run 89 [t0, t10, t4] h9 fun t11 h12 =>
K.extK t11 0 fun t13 =>
K.extK t11 1 fun t14 =>
K.allocK (K.zN ctx 124) (K.zT ctx 124) h12 fun t15 h16 =>
K.stsK 5 t15 t13 h16 fun h17 =>
K.neK (K.binV ctx .neq 24 true t14 (.int .i64 (.ofNat 0))) t14 (.int .i64 (.ofNat 0)) fun t18 =>
K.iteV t18 (
K.unmarkK [] h17 fun h19 => .ok t14 h19) (
K.ldsK ctx 124 5 t15 h17 fun t20 =>
K.callFK run 90 [t20, t6] h17 fun t21 h22 =>
K.extK t21 0 fun t23 =>
K.extK t21 1 fun t24 =>
K.extK t21 2 fun t25 =>
K.allocK (K.zN ctx 64) (K.zT ctx 64) h22 fun t26 h27 =>
K.stsK 2 t26 t23 h27 fun h28 =>
K.neK (K.binV ctx .neq 24 true t25 (.int .i64 (.ofNat 0))) t25 (.int .i64 (.ofNat 0)) fun t29 =>
K.iteV t29 (
K.unmarkK [] h28 fun h30 => .ok t25 h30) (
K.fldK 4 t15 fun t31 =>
K.ldK ctx 85 t31 h28 fun t32 =>
K.callFK run 107 [t32, t24] h28 fun t33 h34 =>
K.unmarkK [] h34 fun h35 => .ok t33 h35)))
noncomputable def r103 : K.KRun → List AV → H → K.KR := fun run args h => K.uncons args fun t0 l1 => K.uncons l1 fun t2 l3 => K.unnil l3 (
K.fldK 0 t0 fun t4 =>
K.ldK ctx 29 t4 h fun t5 =>
K.fldK 1 t0 fun t6 =>
K.ldsK ctx 23 3 t6 h fun t7 =>
K.fldK 1 t2 fun t8 =>
K.ldK ctx 3 t8 h fun t9 =>
K.callFK run 13 [t5, t7, t9] h fun t10 h11 =>
K.unmarkK [] h11 fun h12 => .ok t10 h12)
noncomputable def r104 : K.KRun → List AV → H → K.KR := fun run args h => K.uncons args fun t0 l1 => K.unnil l1 (
K.boxK t0 h fun t2 h3 =>
K.unmarkK [] h3 fun h4 => .ok (.func (.func 132) [] [t2]) h4)
noncomputable def r105 : K.KRun → List AV → H → K.KR := fun run args h => K.uncons args fun t0 l1 => K.uncons l1 fun t2 l3 => K.unnil l3 (
K.boxK t0 h fun t4 h5 =>
K.allocK (K.zN ctx 64) (K.zT ctx 64) h5 fun t6 h7 =>
K.fldK 4 t4 fun t8 =>
K.ldK ctx 85 t8 h7 fun t9 =>
K.callFK run 125 [t9, t2] h7 fun t10 h11 =>
K.extK t10 0 fun t12 =>
K.extK t10 1 fun t13 =>
K.neK (K.binV ctx .neq 24 true t13 (.int .i64 (.ofNat 0))) t13 (.int .i64 (.ofNat 0)) fun t14 =>
K.letK (fun (t15 : AV) (h16 : H) => K.letK (fun (t18 : AV) (h19 : H) => K.pickK t14 (.bool true) t18 fun t21 =>
K.iteV t21 (
K.bldSK ctx 64 [] fun t22 =>
K.stsK 2 t6 t22 h19 fun h23 =>
K.unmarkK [] h23 fun h24 => K.asPtr t6 fun n25 n26 => K.loads h24 n25 n26 2 fun t27 => .ok (.tup [(.agg t27), t13]) h24) (
K.fldK 1 t4 fun t28 =>
K.ldsK ctx 23 3 t28 h19 fun t29 =>
K.callFK run 128 [t29, t12] h19 fun t30 h31 =>
K.fldK 0 t4 fun t32 =>
K.ldK ctx 29 t32 h31 fun t33 =>
K.fldK 0 t4 fun t34 =>
K.ldK ctx 29 t34 h31 fun t35 =>
K.addK (K.binV ctx .add 3 true t30 (.int .i64 (.ofNat 1))) t30 (.int .i64 (.ofNat 1)) fun t36 =>
K.callFK run 72 [t33, t30] h31 fun t37 h38 =>
K.ldK ctx 29 t34 h38 fun t39 =>
K.req (AV.same t35 t39) (
K.callFK run 72 [t35, t36] h38 fun t40 h41 =>
K.ltK (K.binV ctx .lss 27 true t37 (.int .u64 (.ofNat 1))) t37 (.int .u64 (.ofNat 1)) fun t42 =>
K.letK (fun (t43 : AV) (h44 : H) => K.letK (fun (t46 : AV) (h47 : H) => K.letK (fun (t49 : AV) (h50 : H) => K.letK (fun (t52 : AV) (h53 : H) => K.letK (fun (t55 : AV) (h56 : H) => K.letK (fun (t58 : AV) (h59 : H) => K.pickK t42 (.bool true) t58 fun t61 =>
K.letK (fun (t62 : AV) (h63 : H) => K.letK (fun (t65 : AV) (h66 : H) => K.pickK t61 (.bool true) t65 fun t68 =>
K.iteV t68 (
K.bldSK ctx 64 [] fun t69 =>
K.stsK 2 t6 t69 h66 fun h70 =>
K.unmarkK [] h70 fun h71 => K.asPtr t6 fun n72 n73 => K.loads h71 n72 n73 2 fun t74 => .ok (.tup [(.agg t74), (.int .i64 (.ofNat 4))]) h71) (
K.letK (fun (l75 : List AV) (m76 : List Nat) (h77 : H) => K.uncons l75 fun t79 l80 => K.uncons l80 fun t81 l82 => K.uncons l82 fun t83 l84 => K.uncons l84 fun t85 l86 => K.unnil l86 (
K.rK (convA ctx 27 3 t83 h77) fun t87 h88 =>
K.callFK run 133 [t85, t87] h88 fun t89 h90 =>
K.extK t89 0 fun t91 =>
K.extK t89 1 fun t92 =>
K.neK (K.binV ctx .neq 24 true t92 (.int .i64 (.ofNat 0))) t92 (.int .i64 (.ofNat 0)) fun t93 =>
K.letK (fun (t94 : AV) (h95 : H) => K.letK (fun (t97 : AV) (h98 : H) => K.letK (fun (t100 : AV) (h101 : H) => K.pickK t93 (.bool true) t100 fun t103 =>
K.iteV t103 (
K.bldSK ctx 64 [] fun t104 =>
K.stsK 2 t79 t104 h101 fun h105 =>
K.unmarkK m76 h105 fun h106 => K.asPtr t79 fun n107 n108 => K.loads h106 n107 n108 2 fun t109 => .ok (.tup [(.agg t109), (.int .i64 (.ofNat 4))]) h106) (
K.rK (convA ctx 27 3 t81 h101) fun t110 h111 =>
K.bldSK ctx 64 [(0, t91), (1, t110)] fun t112 =>
K.stsK 2 t79 t112 h111 fun h113 =>
K.unmarkK m76 h113 fun h114 => K.asPtr t79 fun n115 n116 => K.loads h114 n115 n116 2 fun t117 => .ok (.tup [(.agg t117), (.int .i64 (.ofNat 0))]) h114)) fun j102 =>
K.guK false t93 (K.notK t97 fun t118 =>
j102 t118 h98) (j102 (.tup []) h98)) fun j99 =>
K.guK false t93 (K.callFK run 123 [t94] h95 fun t119 h120 =>
j99 t119 h120) (j99 (.tup []) h95)) fun j96 =>
K.guK false t93 (j96 t91 h90) (j96 (.tup []) h90))) fun j78 =>
K.loopV (nat_lit 1000000) (fun s124 l121 m122 h123 => K.uncons l121 fun t125 l126 => K.uncons l126 fun t127 l128 => K.uncons l128 fun t129 l130 => K.uncons l130 fun t131 l132 => K.uncons l132 fun t133 l134 => K.uncons l134 fun t135 l136 => K.uncons l136 fun t137 l138 => K.unnil l138 (
K.ltK (K.binV ctx .lss 3 true t137 (.int .i64 (.ofNat 8))) t137 (.int .i64 (.ofNat 8)) fun t139 =>
K.iteV t139 (
K.fldK 0 t125 fun t140 =>
K.ldK ctx 29 t140 h123 fun t141 =>
K.addK (K.binV ctx .add 3 false t129 t137) t129 t137 fun t142 =>
K.callFK run 72 [t141, t142] h123 fun t143 h144 =>
K.bslK ctx 27 1 1 [(0, t143)] h144 fun t145 h146 =>
K.appK ctx 27 1 t135 t145 h146 fun t147 h148 =>
K.addK (K.binV ctx .add 3 true t137 (.int .i64 (.ofNat 1))) t137 (.int .i64 (.ofNat 1)) fun t149 =>
s124 [t125, t127, t129, t131, t133, t147, t149] m122 h148) (
j78 [t127, t131, t133, t135] m122 h123))) [t4, t6, t30, t37, t40, .nilSlice, (.int .i64 (.ofNat 2))] [] h66)) fun j67 =>
K.guK false t61 (K.gtK (K.binV ctx .gtr 27 true t62 (.int .u64 (.ofNat 40))) t62 (.int .u64 (.ofNat 40)) fun t150 =>
j67 t150 h63) (j67 (.tup []) h63)) fun j64 =>
K.guK false t61 (j64 t40 h59) (j64 (.tup []) h59)) fun j60 =>
K.guK false t42 (K.geK (K.binV ctx .geq 27 false t43 t55) t43 t55 fun t151 =>
j60 t151 h56) (j60 (.tup []) h56)) fun j57 =>
K.guK false t42 (K.rK (convA ctx 3 27 t52 h53) fun t152 h153 =>
j57 t152 h153) (j57 (.tup []) h53)) fun j54 =>
K.guK false t42 (K.ldK ctx 3 t49 h50 fun t154 =>
j54 t154 h50) (j54 (.tup []) h50)) fun j51 =>
K.guK false t42 (K.fldK 1 t46 fun t155 =>
j51 t155 h47) (j51 (.tup []) h47)) fun j48 =>
K.guK false t42 (K.fldK 1 t4 fun t156 =>
j48 t156 h44) (j48 (.tup []) h44)) fun j45 =>
K.guK false t42 (j45 t37 h41) (j45 (.tup []) h41)))) fun j20 =>
K.guK false t14 (K.eqK (K.binV ctx .eql 3 true t15 (.int .i64 (.ofNat 0))) t15 (.int .i64 (.ofNat 0)) fun t157 =>
j20 t157 h16) (j20 (.tup []) h16)) fun j17 =>
K.guK false t14 (j17 t12 h11) (j17 (.tup []) h11))
noncomputable def r106 : K.KRun → List AV → H → K.KR := fun run args h => K.uncons args fun t0 l1 => K.unnil l1 (
K.boxK t0 h fun t2 h3 =>
K.unmarkK [] h3 fun h4 => .ok (.func (.func 134) [] [t2]) h4)
noncomputable def r107 : K.KRun → List AV → H → K.KR := fun run args h => K.uncons args fun t0 l1 => K.uncons l1 fun t2 l3 => K.unnil l3 (
K.callFK run 125 [t0, t2] h fun t4 h5 =>
K.extK t4 0 fun t6 =>
K.extK t4 1 fun t7 =>
K.neK (K.binV ctx .neq 24 true t7 (.int .i64 (.ofNat 0))) t7 (.int .i64 (.ofNat 0)) fun t8 =>
K.letK (fun (t9 : AV) (h10 : H) => K.letK (fun (t12 : AV) (h13 : H) => K.pickK t8 (.bool true) t12 fun t15 =>
K.iteV t15 (
K.unmarkK [] h13 fun h16 => .ok t7 h16) (
K.callFK run 135 [t0, t2] h13 fun t17 h18 =>
K.extK t17 0 fun t19 =>
K.extK t17 1 fun t20 =>
K.callFK run 136 [t0, t19, t6] h18 fun t21 h22 =>
K.neK (K.binV ctx .neq 24 true t21 (.int .i64 (.ofNat 0))) t21 (.int .i64 (.ofNat 0)) fun t23 =>
K.iteV t23 (
K.unmarkK [] h22 fun h24 => .ok t21 h24) (
K.callFK run 137 [t0] h22 fun t25 h26 =>
K.neK (K.binV ctx .neq 3 true t25 (.int .i64 (.ofNat 0))) t25 (.int .i64 (.ofNat 0)) fun t27 =>
K.letK (fun (t28 : AV) (h29 : H) => K.letK (fun (t31 : AV) (h32 : H) => K.letK (fun (t34 : AV) (h35 : H) => K.pickK t27 t34 (.bool false) fun t37 =>
K.iteV t37 (
K.callFK run 139 [t0, (.int .i64 (.ofNat 8))] h35 fun t38 h39 =>
K.callFK run 136 [t0, t38, t25] h39 fun t40 h41 =>
K.unmarkK [] h41 fun h42 => .ok t40 h42) (
K.unmarkK [] h35 fun h43 => .ok (.int .i64 (.ofNat 0)) h43)) fun j36 =>
K.guK true t27 (K.callFK run 138 [t28, t31] h32 fun t44 h45 =>
j36 t44 h45) (j36 (.tup []) h32)) fun j33 =>
K.guK true t27 (j33 t25 h29) (j33 (.tup []) h29)) fun j30 =>
K.guK true t27 (j30 t0 h26) (j30 (.tup []) h26)))) fun j14 =>
K.guK false t8 (K.eqK (K.binV ctx .eql 3 true t9 (.int .i64 (.ofNat 0))) t9 (.int .i64 (.ofNat 0)) fun t46 =>
j14 t46 h10) (j14 (.tup []) h10)) fun j11 =>
K.guK false t8 (j11 t6 h5) (j11 (.tup []) h5))
noncomputable def r108 : K.KRun → List AV → H → K.KR := fun run args h => K.uncons args fun t0 l1 => K.uncons l1 fun t2 l3 => K.unnil l3 (
K.boxK t0 h fun t4 h5 =>
K.letK (fun (l6 : List AV) (m7 : List Nat) (h8 : H) => K.uncons l6 fun t10 l11 => K.uncons l11 fun t12 l13 => K.uncons l13 fun t14 l15 => K.unnil l15 (
K.iteV t14 (
K.unmarkK m7 h8 fun h16 => .ok (.int .i64 (.ofNat 1)) h16) (
K.fldK 0 t12 fun t17 =>
K.ldK ctx 108 t17 h8 fun t18 =>
K.callFK run 140 [t18, t10] h8 fun t19 h20 =>
K.notK t19 fun t21 =>
K.iteV t21 (
K.unmarkK m7 h20 fun h22 => .ok (.int .i64 (.ofNat 3)) h22) (
K.fldK 0 t12 fun t23 =>
K.ldK ctx 108 t23 h20 fun t24 =>
K.callFK run 120 [t24, t10, (.bool false)] h20 fun t25 h26 =>
K.unmarkK m7 h26 fun h27 => .ok t25 h27)))) fun j9 =>
K.ltK (K.binV ctx .lss 3 true t2 (.int .i64 (.ofNat 1))) t2 (.int .i64 (.ofNat 1)) fun t28 =>
K.iteV t28 (
j9 [t2, t4, t28] [] h5) (
K.fldK 1 t4 fun t29 =>
K.ldK ctx 3 t29 h5 fun t30 =>
K.geK (K.binV ctx .geq 3 false t2 t30) t2 t30 fun t31 =>
j9 [t2, t4, t31] [] h5))
noncomputable def r115 : K.KRun → List AV → H → K.KR := fun run args h => K.uncons args fun t0 l1 => K.uncons l1 fun t2 l3 => K.unnil l3 (
K.geK (K.binV ctx .geq 3 true t2 (.int .i64 (.ofNat 0))) t2 (.int .i64 (.ofNat 0)) fun t4 =>
K.letK (fun (t5 : AV) (h6 : H) => K.letK (fun (t8 : AV) (h9 : H) => K.letK (fun (t11 : AV) (h12 : H) => K.letK (fun (t14 : AV) (h15 : H) => K.pickK t4 t14 (.bool false) fun t17 =>
K.unmarkK [] h15 fun h18 => .ok t17 h18) fun j16 =>
K.guK true t4 (K.ltK (K.binV ctx .lss 3 false t5 t11) t5 t11 fun t19 =>
j16 t19 h12) (j16 (.tup []) h12)) fun j13 =>
K.guK true t4 (K.callFK run 78 [t8] h9 fun t20 h21 =>
j13 t20 h21) (j13 (.tup []) h9)) fun j10 =>
K.guK true t4 (j10 t0 h6) (j10 (.tup []) h6)) fun j7 =>
K.guK true t4 (j7 t2 h) (j7 (.tup []) h))
noncomputable def r117 : K.KRun → List AV → H → K.KR := fun run args h => K.uncons args fun t0 l1 => K.uncons l1 fun t2 l3 => K.uncons l3 fun t4 l5 => K.unnil l5 (
K.geK (K.binV ctx .geq 3 false t0 t2) t0 t2 fun t6 =>
K.letK (fun (t7 : AV) (h8 : H) => K.letK (fun (t10 : AV) (h11 : H) => K.letK (fun (t13 : AV) (h14 : H) => K.pickK t6 t13 (.bool false) fun t16 =>
K.unmarkK [] h14 fun h17 => .ok t16 h17) fun j15 =>
K.guK true t6 (K.leK (K.binV ctx .leq 3 false t7 t10) t7 t10 fun t18 =>
j15 t18 h11) (j15 (.tup []) h11)) fun j12 =>
K.guK true t6 (j12 t4 h8) (j12 (.tup []) h8)) fun j9 =>
K.guK true t6 (j9 t0 h) (j9 (.tup []) h))
noncomputable def r118 : K.KRun → List AV → H → K.KR := fun run args h => K.uncons args fun t0 l1 => K.unnil l1 (
K.boxK t0 h fun t2 h3 =>
K.allocK (K.zN ctx 160) (K.zT ctx 160) h3 fun t4 h5 =>
K.bldSK ctx 159 [(0, (.int .u8 (.ofNat 1))), (1, (.int .i64 (.ofNat 8))), (2, (.int .i64 (.ofNat 1)))] fun t6 =>
K.bldSK ctx 159 [(0, (.int .u8 (.ofNat 2))), (1, (.int .i64 (.ofNat 64))), (2, (.int .i64 (.ofNat 4)))] fun t7 =>
K.fldK 0 t2 fun t8 =>
K.ldK ctx 3 t8 h5 fun t9 =>
K.bldSK ctx 159 [(0, (.int .u8 (.ofNat 5))), (1, (.int .i64 (.ofNat 208))), (2, t9)] fun t10 =>
K.bldSK ctx 159 [(0, (.int .u8 (.ofNat 6))), (1, (.int .i64 (.ofNat 8))), (2, (.int .i64 (.ofNat 1)))] fun t11 =>
K.bldSK ctx 159 [(0, (.int .u8 (.ofNat 7))), (1, (.int .i64 (.ofNat 8))), (2, (.int .i64 (.ofNat 1)))] fun t12 =>
K.fldK 1 t2 fun t13 =>
K.ldK ctx 3 t13 h5 fun t14 =>
K.bldSK ctx 159 [(0, (.int .u8 (.ofNat 8))), (1, (.int .i64 (.ofNat 16))), (2, t14)] fun t15 =>
K.fldK 2 t2 fun t16 =>
K.ldK ctx 3 t16 h5 fun t17 =>
K.bldSK ctx 159 [(0, (.int .u8 (.ofNat 9))), (1, (.int .i64 (.ofNat 8))), (2, t17)] fun t18 =>
K.bldAK ctx 160 3 [(0, t6), (1, t7), (2, t10), (3, t11), (4, t12), (5, t15), (6, t18)] fun t19 =>
K.stsK 21 t4 t19 h5 fun h20 =>
K.unmarkK [] h20 fun h21 => K.asPtr t4 fun n22 n23 => K.loads h21 n22 n23 21 fun t24 => .ok (.agg t24) h21)
noncomputable def r119 : K.KRun → List AV → H → K.KR := fun run args h => K.uncons args fun t0 l1 => K.unnil l1 (
K.boxK t0 h fun t2 h3 =>
K.allocK (K.zN ctx 3) (K.zT ctx 3) h3 fun t4 h5 =>
K.allocK (K.zN ctx 4) (K.zT ctx 4) h5 fun t6 h7 =>
K.letK (fun (l8 : List AV) (m9 : List Nat) (h10 : H) => K.uncons l8 fun t12 l13 => K.uncons l13 fun t14 l15 => K.unnil l15 (
K.stK t12 (.int .i64 (.ofNat 0)) h10 fun h16 =>
K.stK t14 (.bool false) h16 fun h17 =>
K.unmarkK m9 h17 fun h18 => K.asPtr t12 fun n19 n20 => K.load1 h18 n19 n20 fun t21 => K.asPtr t14 fun n22 n23 => K.load1 h18 n22 n23 fun t24 => .ok (.tup [t21, t24]) h18)) fun j11 =>
K.ldK ctx 108 t2 h7 fun t25 =>
K.callFK run 141 [t25] h7 fun t26 h27 =>
K.hNew h27 .marks fun r28 h29 => K.hNew h29 (.loop .ready none (K.mkT [1, 2, 3, 8] [t2, t4, t6, t26]) 6 r28) fun n30 h31 =>
K.rngK ctx run t26 n30 h31 (fun h33 => j11 [t4, t6] (r28 :: []) h33) (fun h34 => K.unmarkK (r28 :: []) h34 fun h37 => K.asPtr t4 fun n38 n39 => K.load1 h37 n38 n39 fun t40 => K.asPtr t6 fun n41 n42 => K.load1 h37 n41 n42 fun t43 => .ok (.tup [t40, t43]) h37) fun i32 h35 => (Bool.rec (motive := fun _ => K.KR) (.bad) (j11 [t4, t6] (r28 :: []) h35) (Nat.beq i32 0)))
noncomputable def r120 : K.KRun → List AV → H → K.KR := fun run args h => K.uncons args fun t0 l1 => K.uncons l1 fun t2 l3 => K.uncons l3 fun t4 l5 => K.unnil l5 (
K.eqK (K.binV ctx .eql 108 true t0 .nilPtr) t0 .nilPtr fun t6 =>
K.iteV t6 (
K.unmarkK [] h fun h7 => .ok (.int .i64 (.ofNat 2)) h7) (
K.callFK run 143 [t0, t2] h fun t8 h9 =>
K.notK t8 fun t10 =>
K.iteV t10 (
K.unmarkK [] h9 fun h11 => .ok (.int .i64 (.ofNat 8)) h11) (
K.callFK run 144 [t0, t2] h9 fun t12 h13 =>
K.extK t12 0 fun t14 =>
K.extK t12 1 fun t15 =>
K.nilK t0 fun t16 =>
K.fldK 0 t16 fun t17 =>
K.ldK ctx 29 t17 h13 fun t18 =>
K.callFK run 72 [t18, t14] h13 fun t19 h20 =>
K.oK (K.binV ctx .andNot 27 false t19 t15) fun t21 =>
K.letK (fun (l22 : List AV) (m23 : List Nat) (h24 : H) => K.uncons l22 fun t26 l27 => K.uncons l27 fun t28 l29 => K.uncons l29 fun t30 l31 => K.unnil l31 (
K.nilK t26 fun t32 =>
K.fldK 0 t32 fun t33 =>
K.ldK ctx 29 t33 h24 fun t34 =>
K.callFK run 98 [t34, t28, t30] h24 fun t35 h36 =>
K.unmarkK m23 h36 fun h37 => .ok t35 h37)) fun j25 =>
K.iteV t4 (
K.oK (K.binV ctx .or 27 false t21 t15) fun t38 =>
j25 [t0, t14, t38] [] h20) (
j25 [t0, t14, t21] [] h20))))
noncomputable def r121 : K.KRun → List AV → H → K.KR := fun run args h => K.uncons args fun t0 l1 => K.uncons l1 fun t2 l3 => K.unnil l3 (
K.letK (fun (l4 : List AV) (m5 : List Nat) (h6 : H) => K.unnil l4 (
K.unmarkK m5 h6 fun h8 => .ok (.int .i64 (.ofNat 0)) h8)) fun j7 =>
K.lenVK t2 fun t9 =>
K.loopV (nat_lit 1000000) (fun s13 l10 m11 h12 => K.uncons l10 fun t14 l15 => K.uncons l15 fun t16 l17 => K.uncons l17 fun t18 l19 => K.uncons l19 fun t20 l21 => K.unnil l21 (
K.ltK (K.binV ctx .lss 3 false t20 t18) t20 t18 fun t22 =>
K.iteV t22 (
K.idxSK 1 t16 t20 fun t23 =>
K.ldK ctx 3 t23 h12 fun t24 =>
K.nilK t14 fun t25 =>
K.fldK 0 t25 fun t26 =>
K.ldK ctx 29 t26 h12 fun t27 =>
K.callFK run 98 [t27, t24, (.int .u64 (.ofNat 0))] h12 fun t28 h29 =>
K.neK (K.binV ctx .neq 24 true t28 (.int .i64 (.ofNat 0))) t28 (.int .i64 (.ofNat 0)) fun t30 =>
K.iteV t30 (
K.unmarkK m11 h29 fun h31 => .ok t28 h31) (
K.addK (K.binV ctx .add 3 true t20 (.int .i64 (.ofNat 1))) t20 (.int .i64 (.ofNat 1)) fun t32 =>
s13 [t14, t16, t18, t32] m11 h29)) (
j7 [] m11 h12))) [t0, t2, t9, (.int .i64 (.ofNat 0))] [] h)
noncomputable def r122 : K.KRun → List AV → H → K.KR := fun run args h => K.uncons args fun t0 l1 => K.unnil l1 (
K.letK (fun (l2 : List AV) (m3 : List Nat) (h4 : H) => K.uncons l2 fun t6 l7 => K.unnil l7 (
K.idxSK 1 t6 (.int .i64 (.ofNat 0)) fun t8 =>
K.ldK ctx 27 t8 h4 fun t9 =>
K.letK (fun (l10 : List AV) (m11 : List Nat) (h12 : H) => K.uncons l10 fun t14 l15 => K.unnil l15 (
K.unmarkK m11 h12 fun h16 => .ok t14 h16)) fun j13 =>
K.loopV (nat_lit 1000000) (fun s20 l17 m18 h19 => K.uncons l17 fun t21 l22 => K.uncons l22 fun t23 l24 => K.uncons l24 fun t25 l26 => K.unnil l26 (
K.lenVK t21 fun t27 =>
K.ltK (K.binV ctx .lss 3 false t25 t27) t25 t27 fun t28 =>
K.iteV t28 (
K.idxSK 1 t21 t25 fun t29 =>
K.ldK ctx 27 t29 h19 fun t30 =>
K.slowK ctx run (K.opAt Go.Proofs.Tryz.f122 7 5) [18, 22] [t23, t30] h19 fun t31 h32 =>
K.addK (K.binV ctx .add 3 true t25 (.int .i64 (.ofNat 1))) t25 (.int .i64 (.ofNat 1)) fun t33 =>
s20 [t21, t31, t33] m18 h32) (
j13 [t23] m18 h19))) [t6, t9, (.int .i64 (.ofNat 1))] m3 h4)) fun j5 =>
K.lenVK t0 fun t34 =>
K.ltK (K.binV ctx .lss 3 true t34 (.int .i64 (.ofNat 1))) t34 (.int .i64 (.ofNat 1)) fun t35 =>
K.iteV t35 (
K.slowK ctx run (K.opAt Go.Proofs.Tryz.f122 2 1) [8] [(.iface 9 (.str [115, 108, 105, 99, 101, 115, 46, 77, 97, 120, 58, 32, 101, 109, 112, 116, 121, 32, 108, 105, 115, 116]))] h fun t36 h37 =>
j5 [t0] [] h37) (
j5 [t0] [] h))
noncomputable def r123 : K.KRun → List AV → H → K.KR := fun run args h => K.uncons args fun t0 l1 => K.unnil l1 (
K.lenTK t0 fun t2 =>
K.geK (K.binV ctx .geq 3 true t2 (.int .i64 (.ofNat 1))) t2 (.int .i64 (.ofNat 1)) fun t3 =>
K.letK (fun (t4 : AV) (h5 : H) => K.letK (fun (t7 : AV) (h8 : H) => K.letK (fun (t10 : AV) (h11 : H) => K.pickK t3 t10 (.bool false) fun t13 =>
K.letK (fun (t14 : AV) (h15 : H) => K.letK (fun (t17 : AV) (h18 : H) => K.letK (fun (t20 : AV) (h21 : H) => K.pickK t13 t20 (.bool false) fun t23 =>
K.letK (fun (t24 : AV) (h25 : H) => K.letK (fun (t27 : AV) (h28 : H) => K.pickK t23 t27 (.bool false) fun t30 =>
K.letK (fun (t31 : AV) (h32 : H) => K.letK (fun (t34 : AV) (h35 : H) => K.pickK t30 t34 (.bool false) fun t37 =>
K.unmarkK [] h35 fun h38 => .ok t37 h38) fun j36 =>
K.guK true t30 (K.neK (K.binV ctx .neq 9 true t31 (.str [46, 46])) t31 (.str [46, 46]) fun t39 =>
j36 t39 h32) (j36 (.tup []) h32)) fun j33 =>
K.guK true t30 (j33 t0 h28) (j33 (.tup []) h28)) fun j29 =>
K.guK true t23 (K.neK (K.binV ctx .neq 9 true t24 (.str [46])) t24 (.str [46]) fun t40 =>
j29 t40 h25) (j29 (.tup []) h25)) fun j26 =>
K.guK true t23 (j26 t0 h21) (j26 (.tup []) h21)) fun j22 =>
K.guK true t13 (K.notK t17 fun t41 =>
j22 t41 h18) (j22 (.tup []) h18)) fun j19 =>
K.guK true t13 (K.callFK run 145 [t14, (.str [47, 0])] h15 fun t42 h43 =>
j19 t42 h43) (j19 (.tup []) h15)) fun j16 =>
K.guK true t13 (j16 t0 h11) (j16 (.tup []) h11)) fun j12 =>
K.guK true t3 (K.leK (K.binV ctx .leq 3 true t7 (.int .i64 (.ofNat 40))) t7 (.int .i64 (.ofNat 40)) fun t44 =>
j12 t44 h8) (j12 (.tup []) h8)) fun j9 =>
K.guK true t3 (K.lenTK t4 fun t45 =>
j9 t45 h5) (j9 (.tup []) h5)) fun j6 =>
K.guK true t3 (j6 t0 h) (j6 (.tup []) h))
noncomputable def r124 : K.KRun → List AV → H → K.KR := fun run args h => K.uncons args fun t0 l1 => K.unnil l1 (
K.callFK run 123 [t0] h fun t2 h3 =>
K.notK t2 fun t4 =>
K.iteV t4 (
K.unmarkK [] h3 fun h5 => .ok (.int .i64 (.ofNat 0)) h5) (
K.callFK run 127 [t0] h3 fun t6 h7 =>
K.callFK run 146 [t6] h7 fun t8 h9 =>
K.oK (K.binV ctx .rem 27 true t8 (.int .u64 (.ofNat 12))) fun t10 =>
K.rK (convA ctx 27 3 t10 h9) fun t11 h12 =>
K.unmarkK [] h12 fun h13 => .ok t11 h13))
noncomputable def r125 : K.KRun → List AV → H → K.KR := fun run args h => K.uncons args fun t0 l1 => K.uncons l1 fun t2 l3 => K.unnil l3 (
K.eqK (K.binV ctx .eql 85 true t0 .nilPtr) t0 .nilPtr fun t4 =>
K.iteV t4 (
K.unmarkK [] h fun h5 => .ok (.tup [(.int .i64 (.ofNat 0)), (.int .i64 (.ofNat 2))]) h5) (
K.letK (fun (l6 : List AV) (m7 : List Nat) (h8 : H) => K.uncons l6 fun t10 l11 => K.uncons l11 fun t12 l13 => K.uncons l13 fun t14 l15 => K.unnil l15 (
K.iteV t14 (
K.unmarkK m7 h8 fun h16 => .ok (.tup [(.int .i64 (.ofNat 0)), (.int .i64 (.ofNat 1))]) h16) (
K.nilK t10 fun t17 =>
K.fldK 0 t17 fun t18 =>
K.ldK ctx 29 t18 h8 fun t19 =>
K.nilK t10 fun t20 =>
K.fldK 1 t20 fun t21 =>
K.ldsK ctx 23 3 t21 h8 fun t22 =>
K.nilK t10 fun t23 =>
K.fldK 4 t23 fun t24 =>
K.ldK ctx 3 t24 h8 fun t25 =>
K.callFK run 40 [t19, t22, t25] h8 fun t26 h27 =>
K.extK t26 0 fun t28 =>
K.extK t26 1 fun t29 =>
K.allocK (K.zN ctx 58) (K.zT ctx 58) h27 fun t30 h31 =>
K.stsK 10 t30 t28 h31 fun h32 =>
K.neK (K.binV ctx .neq 24 true t29 (.int .i64 (.ofNat 0))) t29 (.int .i64 (.ofNat 0)) fun t33 =>
K.iteV t33 (
K.unmarkK m7 h32 fun h34 => .ok (.tup [(.int .i64 (.ofNat 0)), t29]) h34) (
K.callFK run 135 [t10, t12] h32 fun t35 h36 =>
K.extK t35 0 fun t37 =>
K.extK t35 1 fun t38 =>
K.notK t38 fun t39 =>
K.iteV t39 (
K.unmarkK m7 h36 fun h40 => .ok (.tup [(.int .i64 (.ofNat 0)), (.int .i64 (.ofNat 0))]) h40) (
K.nilK t10 fun t41 =>
K.fldK 0 t41 fun t42 =>
K.ldK ctx 29 t42 h36 fun t43 =>
K.callFK run 72 [t43, t37] h36 fun t44 h45 =>
K.nilK t10 fun t46 =>
K.fldK 1 t46 fun t47 =>
K.fldK 2 t47 fun t48 =>
K.ldK ctx 3 t48 h45 fun t49 =>
K.rK (convA ctx 3 27 t49 h45) fun t50 h51 =>
K.geK (K.binV ctx .geq 27 false t44 t50) t44 t50 fun t52 =>
K.iteV t52 (
K.unmarkK m7 h51 fun h53 => .ok (.tup [(.int .i64 (.ofNat 0)), (.int .i64 (.ofNat 4))]) h53) (
K.rK (convA ctx 27 3 t44 h51) fun t54 h55 =>
K.unmarkK m7 h55 fun h56 => .ok (.tup [t54, (.int .i64 (.ofNat 0))]) h56)))))) fun j9 =>
K.ltK (K.binV ctx .lss 3 true t2 (.int .i64 (.ofNat 0))) t2 (.int .i64 (.ofNat 0)) fun t57 =>
K.iteV t57 (
j9 [t0, t2, t57] [] h) (
K.geK (K.binV ctx .geq 3 true t2 (.int .i64 (.ofNat 12))) t2 (.int .i64 (.ofNat 12)) fun t58 =>
j9 [t0, t2, t58] [] h)))
noncomputable def r126 : K.KRun → List AV → H → K.KR := fun run args h => K.uncons args fun t0 l1 => K.uncons l1 fun t2 l3 => K.unnil l3 (
K.callFK run 125 [t0, t2] h fun t4 h5 =>
K.extK t4 0 fun t6 =>
K.extK t4 1 fun t7 =>
K.neK (K.binV ctx .neq 24 true t7 (.int .i64 (.ofNat 0))) t7 (.int .i64 (.ofNat 0)) fun t8 =>
K.letK (fun (t9 : AV) (h10 : H) => K.letK (fun (t12 : AV) (h13 : H) => K.pickK t8 (.bool true) t12 fun t15 =>
K.iteV t15 (
K.unmarkK [] h13 fun h16 => .ok (.tup [t6, t7]) h16) (
K.nilK t0 fun t17 =>
K.fldK 0 t17 fun t18 =>
K.ldK ctx 29 t18 h13 fun t19 =>
K.nilK t0 fun t20 =>
K.fldK 1 t20 fun t21 =>
K.ldsK ctx 23 3 t21 h13 fun t22 =>
K.callFK run 26 [t19, t22] h13 fun t23 h24 =>
K.extK t23 0 fun t25 =>
K.extK t23 1 fun t26 =>
K.neK (K.binV ctx .neq 24 true t26 (.int .i64 (.ofNat 0))) t26 (.int .i64 (.ofNat 0)) fun t27 =>
K.iteV t27 (
K.unmarkK [] h24 fun h28 => .ok (.tup [(.int .i64 (.ofNat 0)), t26]) h28) (
K.callFK run 147 [t25] h24 fun t29 h30 =>
K.extK t29 0 fun t31 =>
K.extK t29 1 fun t32 =>
K.callFK run 148 [t0, t2] h30 fun t33 h34 =>
K.ltK (K.binV ctx .lss 3 false t32 t33) t32 t33 fun t35 =>
K.iteV t35 (
K.unmarkK [] h34 fun h36 => .ok (.tup [(.int .i64 (.ofNat 0)), (.int .i64 (.ofNat 7))]) h36) (
K.callFK run 135 [t0, t2] h34 fun t37 h38 =>
K.extK t37 0 fun t39 =>
K.extK t37 1 fun t40 =>
K.letK (fun (l41 : List AV) (m42 : List Nat) (h43 : H) => K.uncons l41 fun t45 l46 => K.uncons l46 fun t47 l48 => K.unnil l48 (
K.callFK run 149 [t45, t47] h43 fun t49 h50 =>
K.extK t49 0 fun t51 =>
K.extK t49 1 fun t52 =>
K.unmarkK m42 h50 fun h53 => .ok (.tup [t51, t52]) h53)) fun j44 =>
K.notK t40 fun t54 =>
K.iteV t54 (
K.callFK run 139 [t0, (.int .i64 (.ofNat 8))] h38 fun t55 h56 =>
K.callFK run 149 [t0, t55] h56 fun t57 h58 =>
K.extK t57 0 fun t59 =>
K.extK t57 1 fun t60 =>
K.neK (K.binV ctx .neq 24 true t60 (.int .i64 (.ofNat 0))) t60 (.int .i64 (.ofNat 0)) fun t61 =>
K.iteV t61 (
K.unmarkK [] h58 fun h62 => .ok (.tup [(.int .i64 (.ofNat 0)), t60]) h62) (
K.callFK run 135 [t0, t2] h58 fun t63 h64 =>
K.extK t63 0 fun t65 =>
K.extK t63 1 fun t66 =>
j44 [t0, t65] [] h64)) (
j44 [t0, t39] [] h38))))) fun j14 =>
K.guK false t8 (K.neK (K.binV ctx .neq 3 true t9 (.int .i64 (.ofNat 0))) t9 (.int .i64 (.ofNat 0)) fun t67 =>
j14 t67 h10) (j14 (.tup []) h10)) fun j11 =>
K.guK false t8 (j11 t6 h5) (j11 (.tup []) h5))
noncomputable def r127 : K.KRun → List AV → H → K.KR := fun run args h => K.uncons args fun t0 l1 => K.unnil l1 (
K.allocK (K.zN ctx 31) (K.zT ctx 31) h fun t2 h3 =>
K.letK (fun (l4 : List AV) (m5 : List Nat) (h6 : H) => K.uncons l4 fun t8 l9 => K.unnil l9 (
K.ldK ctx 31 t8 h6 fun t10 =>
K.stK t8 t10 h6 fun h11 =>
K.unmarkK m5 h11 fun h12 => K.asPtr t8 fun n13 n14 => K.load1 h12 n13 n14 fun t15 => .ok t15 h12)) fun j7 =>
K.rK (convA ctx 9 193 t0 h3) fun t16 h17 =>
K.callFK run 150 [t16, (.int .i64 (.ofNat 8))] h17 fun t18 h19 =>
K.hNew h19 .marks fun r20 h21 => K.hNew h21 (.loop .ready none (K.mkT [2, 9] [t2, t18]) 8 r20) fun n22 h23 =>
K.rngK ctx run t18 n22 h23 (fun h25 => j7 [t2] (r20 :: []) h25) (fun h26 => K.unmarkK (r20 :: []) h26 fun h29 => K.asPtr t2 fun n30 n31 => K.load1 h29 n30 n31 fun t32 => .ok t32 h29) fun i24 h27 => (Bool.rec (motive := fun _ => K.KR) (.bad) (j7 [t2] (r20 :: []) h27) (Nat.beq i24 0)))
noncomputable def r128 : K.KRun → List AV → H → K.KR := fun run args h => K.uncons args fun t0 l1 => K.uncons l1 fun t2 l3 => K.unnil l3 (
K.boxK t0 h fun t4 h5 =>
K.ldsK ctx 23 3 t4 h5 fun t6 =>
K.callFK run 99 [t6, (.int .u8 (.ofNat 9)), t2] h5 fun t7 h8 =>
K.unmarkK [] h8 fun h9 => .ok t7 h9)
noncomputable def r129 : K.KRun → List AV → H → K.KR := fun run args h => K.unnil args (
K.unmarkK [] h fun h0 => .ok (.int .i64 (.ofNat 264)) h0)
noncomputable def r130 : K.KRun → List AV → H → K.KR := fun run args h => K.uncons args fun t0 l1 => K.uncons l1 fun t2 l3 => K.unnil l3 (
K.callFK run 152 [t0, t2] h fun t4 h5 =>
K.unmarkK [] h5 fun h6 => .ok t4 h6)
noncomputable def r131 : K.KRun → List AV → H → K.KR := fun run args h => K.uncons args fun t0 l1 => K.unnil l1 (
K.boxK t0 h fun t2 h3 =>
K.unmarkK [] h3 fun h4 => .ok (.func (.func 153) [] [t2]) h4)
noncomputable def r132 : K.KRun → List AV → H → K.KR := fun run args h => K.uncons args fun t0 l1 => K.uncons l1 fun t2 l3 => K.unnil l3 (
K.loopV (nat_lit 1000000) (fun s7 l4 m5 h6 => K.uncons l4 fun t8 l9 => K.uncons l9 fun t10 l11 => K.uncons l11 fun t12 l13 => K.unnil l13 (
K.ltK (K.binV ctx .lss 3 true t12 (.int .i64 (.ofNat 12))) t12 (.int .i64 (.ofNat 12)) fun t14 =>
K.iteV t14 (
K.ldK ctx 3 t10 h6 fun t15 =>
K.addK (K.binV ctx .add 3 false t15 t12) t15 t12 fun t16 =>
K.oK (K.binV ctx .rem 3 true t16 (.int .i64 (.ofNat 12))) fun t17 =>
K.callVK run t8 [t17] h6 fun t18 h19 =>
K.notK t18 fun t20 =>
K.iteV t20 (
K.unmarkK m5 h19 fun h21 => .ok (.tup []) h21) (
K.addK (K.binV ctx .add 3 true t12 (.int .i64 (.ofNat 1))) t12 (.int .i64 (.ofNat 1)) fun t22 =>
s7 [t8, t10, t22] m5 h19)) (
K.unmarkK m5 h6 fun h23 => .ok (.tup []) h23))) [t0, t2, (.int .i64 (.ofNat 0))] [] h)
noncomputable def r133 : K.KRun → List AV → H → K.KR := fun run args h => K.uncons args fun t0 l1 => K.uncons l1 fun t2 l3 => K.unnil l3 (
K.ltK (K.binV ctx .lss 3 true t2 (.int .i64 (.ofNat 0))) t2 (.int .i64 (.ofNat 0)) fun t4 =>
K.letK (fun (t5 : AV) (h6 : H) => K.letK (fun (t8 : AV) (h9 : H) => K.letK (fun (t11 : AV) (h12 : H) => K.letK (fun (t14 : AV) (h15 : H) => K.letK (fun (t17 : AV) (h18 : H) => K.pickK t4 (.bool true) t17 fun t20 =>
K.iteV t20 (
K.unmarkK [] h18 fun h21 => .ok (.tup [(.str []), (.int .i64 (.ofNat 1))]) h21) (
K.mslK ctx 5 1 t2 t2 h18 fun t22 h23 =>
K.letK (fun (l24 : List AV) (m25 : List Nat) (h26 : H) => K.uncons l24 fun t28 l29 => K.unnil l29 (
K.rK (convA ctx 193 9 t28 h26) fun t30 h31 =>
K.unmarkK m25 h31 fun h32 => .ok (.tup [t30, (.int .i64 (.ofNat 0))]) h32)) fun j27 =>
K.lenVK t22 fun t33 =>
K.loopV (nat_lit 1000000) (fun s37 l34 m35 h36 => K.uncons l34 fun t38 l39 => K.uncons l39 fun t40 l41 => K.uncons l41 fun t42 l43 => K.uncons l43 fun t44 l45 => K.unnil l45 (
K.ltK (K.binV ctx .lss 3 false t44 t42) t44 t42 fun t46 =>
K.iteV t46 (
K.oK (K.binV ctx .quo 3 true t44 (.int .i64 (.ofNat 8))) fun t47 =>
K.idxSK 1 t38 t47 fun t48 =>
K.ldK ctx 27 t48 h36 fun t49 =>
K.oK (K.binV ctx .rem 3 true t44 (.int .i64 (.ofNat 8))) fun t50 =>
K.mulK (K.binV ctx .mul 3 true (.int .i64 (.ofNat 8)) t50) (.int .i64 (.ofNat 8)) t50 fun t51 =>
K.oK (K.binV ctx .shr 27 false t49 t51) fun t52 =>
K.rK (convA ctx 27 5 t52 h36) fun t53 h54 =>
K.idxSK 1 t40 t44 fun t55 =>
K.stK t55 t53 h54 fun h56 =>
K.addK (K.binV ctx .add 3 true t44 (.int .i64 (.ofNat 1))) t44 (.int .i64 (.ofNat 1)) fun t57 =>
s37 [t38, t40, t42, t57] m35 h56) (
j27 [t40] m35 h36))) [t0, t22, t33, (.int .i64 (.ofNat 0))] [] h23)) fun j19 =>
K.guK false t4 (K.gtK (K.binV ctx .gtr 3 false t5 t14) t5 t14 fun t58 =>
j19 t58 h15) (j19 (.tup []) h15)) fun j16 =>
K.guK false t4 (K.mulK (K.binV ctx .mul 3 true (.int .i64 (.ofNat 8)) t11) (.int .i64 (.ofNat 8)) t11 fun t59 =>
j16 t59 h12) (j16 (.tup []) h12)) fun j13 =>
K.guK false t4 (K.lenVK t8 fun t60 =>
j13 t60 h9) (j13 (.tup []) h9)) fun j10 =>
K.guK false t4 (j10 t0 h6) (j10 (.tup []) h6)) fun j7 =>
K.guK false t4 (j7 t2 h) (j7 (.tup []) h))
noncomputable def r134 : K.KRun → List AV → H → K.KR := fun run args h => K.uncons args fun t0 l1 => K.uncons l1 fun t2 l3 => K.unnil l3 (
K.ldK ctx 3 t2 h fun t4 =>
K.loopV (nat_lit 1000000) (fun s8 l5 m6 h7 => K.uncons l5 fun t9 l10 => K.uncons l10 fun t11 l12 => K.unnil l12 (
K.ltK (K.binV ctx .lss 3 true t11 (.int .i64 (.ofNat 12))) t11 (.int .i64 (.ofNat 12)) fun t13 =>
K.iteV t13 (
K.callVK run t9 [t11] h7 fun t14 h15 =>
K.notK t14 fun t16 =>
K.iteV t16 (
K.unmarkK m6 h15 fun h17 => .ok (.tup []) h17) (
K.addK (K.binV ctx .add 3 true t11 (.int .i64 (.ofNat 1))) t11 (.int .i64 (.ofNat 1)) fun t18 =>
s8 [t9, t18] m6 h15)) (
K.unmarkK m6 h7 fun h19 => .ok (.tup []) h19))) [t0, t4] [] h)
noncomputable def r135 : K.KRun → List AV → H → K.KR := fun run args h => K.uncons args fun t0 l1 => K.uncons l1 fun t2 l3 => K.unnil l3 (
K.letK (fun (l4 : List AV) (m5 : List Nat) (h6 : H) => K.uncons l4 fun t8 l9 => K.uncons l9 fun t10 l11 => K.unnil l11 (
K.callVK run t10 [t8] h6 fun t12 h13 =>
K.extK t12 0 fun t14 =>
K.extK t12 1 fun t15 =>
K.unmarkK m5 h13 fun h16 => .ok (.tup [t14, t15]) h16)) fun j7 =>
K.geK (K.binV ctx .geq 3 true t2 (.int .i64 (.ofNat 4))) t2 (.int .i64 (.ofNat 4)) fun t17 =>
K.iteV t17 (
j7 [t2, (.func (.func 156) [t0] [])] [] h) (
j7 [t2, (.func (.func 155) [t0] [])] [] h))
noncomputable def r136 : K.KRun → List AV → H → K.KR := fun run args h => K.uncons args fun t0 l1 => K.uncons l1 fun t2 l3 => K.uncons l3 fun t4 l5 => K.unnil l5 (
K.nilK t0 fun t6 =>
K.fldK 0 t6 fun t7 =>
K.ldK ctx 29 t7 h fun t8 =>
K.nilK t0 fun t9 =>
K.fldK 1 t9 fun t10 =>
K.ldsK ctx 23 3 t10 h fun t11 =>
K.callFK run 26 [t8, t11] h fun t12 h13 =>
K.extK t12 0 fun t14 =>
K.extK t12 1 fun t15 =>
K.letK (fun (l16 : List AV) (m17 : List Nat) (h18 : H) => K.uncons l16 fun t20 l21 => K.uncons l21 fun t22 l23 => K.uncons l23 fun t24 l25 => K.unnil l25 (
K.letK (fun (l26 : List AV) (m27 : List Nat) (h28 : H) => K.uncons l26 fun t30 l31 => K.unnil l31 (
K.unmarkK m27 h28 fun h32 => .ok t30 h32)) fun j29 =>
K.eqK (K.binV ctx .eql 24 true t24 (.int .i64 (.ofNat 0))) t24 (.int .i64 (.ofNat 0)) fun t33 =>
K.iteV t33 (
K.nilK t20 fun t34 =>
K.fldK 0 t34 fun t35 =>
K.ldK ctx 29 t35 h18 fun t36 =>
K.callFK run 43 [t36, t22, (.int .u64 (.ofNat 0))] h18 fun t37 h38 =>
j29 [t37] m17 h38) (
j29 [t24] m17 h18))) fun j19 =>
K.eqK (K.binV ctx .eql 24 true t15 (.int .i64 (.ofNat 0))) t15 (.int .i64 (.ofNat 0)) fun t39 =>
K.iteV t39 (
K.callFK run 157 [t14, t4] h13 fun t40 h41 =>
j19 [t0, t2, t40] [] h41) (
j19 [t0, t2, t15] [] h13))
noncomputable def r137 : K.KRun → List AV → H → K.KR := fun run args h => K.uncons args fun t0 l1 => K.unnil l1 (
K.nilK t0 fun t2 =>
K.fldK 0 t2 fun t3 =>
K.ldK ctx 29 t3 h fun t4 =>
K.callFK run 139 [t0, (.int .i64 (.ofNat 8))] h fun t5 h6 =>
K.ldK ctx 29 t3 h6 fun t7 =>
K.req (AV.same t4 t7) (
K.callFK run 72 [t4, t5] h6 fun t8 h9 =>
K.rK (convA ctx 27 3 t8 h9) fun t10 h11 =>
K.unmarkK [] h11 fun h12 => .ok t10 h12))
end YtpfgllikhklnoaaGreatDoorNmM
