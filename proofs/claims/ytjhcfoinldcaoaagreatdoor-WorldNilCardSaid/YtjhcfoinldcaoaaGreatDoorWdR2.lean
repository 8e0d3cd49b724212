/- PRINTED BY Gen2.lean (own): functions as plain texts, part 2. -/
import Derived.Test.YtjhcfoinldcaoaaGreatDoorWdCtx
namespace YtjhcfoinldcaoaaGreatDoorWdM
open Go Am
set_option maxRecDepth 100000
noncomputable def r97 : K.KRun → List AV → H → K.KR := fun run args h => K.uncons args fun t0 l1 => K.unnil l1 (
K.nilK t0 fun t2 =>
K.fldK 0 t2 fun t3 =>
K.ldK ctx 46 t3 h fun t4 =>
K.callFK run 25 [t4] h fun t5 h6 =>
K.letK (fun (l7 : List AV) (m8 : List Nat) (h9 : H) => K.uncons l7 fun t11 l12 => K.uncons l12 fun t13 l14 => K.uncons l14 fun t15 l16 => K.unnil l16 (
K.letK (fun (l17 : List AV) (m18 : List Nat) (h19 : H) => K.uncons l17 fun t21 l22 => K.uncons l22 fun t23 l24 => K.unnil l24 (
K.nilK t21 fun t25 =>
K.fldK 4 t25 fun t26 =>
K.ldsK ctx 27 12 t26 h19 fun t27 =>
K.callFK run 125 [t23, t27] h19 fun t28 h29 =>
K.extK t28 0 fun t30 =>
K.extK t28 1 fun t31 =>
K.allocK (K.zN ctx 41) (K.zT ctx 41) h29 fun t32 h33 =>
K.stsK 7 t32 t30 h33 fun h34 =>
K.letK (fun (l35 : List AV) (m36 : List Nat) (h37 : H) => K.uncons l35 fun t39 l40 => K.uncons l40 fun t41 l42 => K.unnil l42 (
K.ldsK ctx 41 7 t41 h37 fun t43 =>
K.nilK t39 fun t44 =>
K.fldK 17 t44 fun t45 =>
K.stsK 7 t45 t43 h37 fun h46 =>
K.nilK t39 fun t47 =>
K.fldK 16 t47 fun t48 =>
K.stK t48 (.func (.func 127) [t39] []) h46 fun h49 =>
K.unmarkK m36 h49 fun h50 => .ok (.int .u8 (.ofNat 3)) h50)) fun j38 =>
K.lenVK t31 fun t51 =>
K.gtK (K.binV ctx .gtr 3 true t51 (.int .i64 (.ofNat 0))) t51 (.int .i64 (.ofNat 0)) fun t52 =>
K.iteV t52 (
K.nilK t21 fun t53 =>
K.fldK 3 t53 fun t54 =>
K.ldK ctx 128 t54 h34 fun t55 =>
K.callFK run 126 [t55, t31] h34 fun t56 h57 =>
j38 [t21, t32] m18 h57) (
j38 [t21, t32] m18 h34))) fun j20 =>
K.nilK t11 fun t58 =>
K.fldK 4 t58 fun t59 =>
K.ldsK ctx 27 12 t59 h9 fun t60 =>
K.callFK run 56 [t13, t60] h9 fun t61 h62 =>
K.lenVK t61 fun t63 =>
K.loopV (nat_lit 1000000) (fun s67 l64 m65 h66 => K.uncons l64 fun t68 l69 => K.uncons l69 fun t70 l71 => K.uncons l71 fun t72 l73 => K.uncons l73 fun t74 l75 => K.uncons l75 fun t76 l77 => K.uncons l77 fun t78 l79 => K.unnil l79 (
K.ltK (K.binV ctx .lss 3 false t78 t76) t78 t76 fun t80 =>
K.iteV t80 (
K.idxSK 1 t74 t78 fun t81 =>
K.ldK ctx 3 t81 h66 fun t82 =>
K.gtK (K.binV ctx .gtr 3 false t82 t72) t82 t72 fun t83 =>
K.iteV t83 (
K.nilK t68 fun t84 =>
K.fldK 1 t84 fun t85 =>
K.ldK ctx 74 t85 h66 fun t86 =>
K.nilK t68 fun t87 =>
K.fldK 2 t87 fun t88 =>
K.ldK ctx 3 t88 h66 fun t89 =>
K.callFK run 124 [t86, t89, t82] h66 fun t90 h91 =>
K.unmarkK m65 h91 fun h92 => .ok (.int .u8 (.ofNat 1)) h92) (
K.addK (K.binV ctx .add 3 true t78 (.int .i64 (.ofNat 1))) t78 (.int .i64 (.ofNat 1)) fun t93 =>
s67 [t68, t70, t72, t74, t76, t93] m65 h66)) (
j20 [t68, t70] m65 h66))) [t11, t13, t15, t61, t63, (.int .i64 (.ofNat 0))] m8 h62)) fun j10 =>
K.nilK t0 fun t94 =>
K.fldK 1 t94 fun t95 =>
K.ldK ctx 74 t95 h6 fun t96 =>
K.nilK t0 fun t97 =>
K.fldK 2 t97 fun t98 =>
K.ldK ctx 3 t98 h6 fun t99 =>
K.callFK run 122 [t96, t99] h6 fun t100 h101 =>
K.lenVK t100 fun t102 =>
K.gtK (K.binV ctx .gtr 3 true t102 (.int .i64 (.ofNat 0))) t102 (.int .i64 (.ofNat 0)) fun t103 =>
K.iteV t103 (
K.callFK run 123 [t100] h101 fun t104 h105 =>
j10 [t0, t5, t104] [] h105) (
j10 [t0, t5, (.int .i64 (.negSucc 0))] [] h101))
noncomputable def r98 : K.KRun → List AV → H → K.KR := fun run args h => K.uncons args fun t0 l1 => K.uncons l1 fun t2 l3 => K.unnil l3 (
K.callFK run 128 [t0, t2] h fun t4 h5 =>
K.geK (K.binV ctx .geq 3 true t4 (.int .i64 (.ofNat 0))) t4 (.int .i64 (.ofNat 0)) fun t6 =>
K.unmarkK [] h5 fun h7 => .ok t6 h7)
noncomputable def r99 : K.KRun → List AV → H → K.KR := fun run args h => K.uncons args fun t0 l1 => K.uncons l1 fun t2 l3 => K.unnil l3 (
K.callFK run 129 [t0, t2] h fun t4 h5 =>
K.eqK (K.binV ctx .eql 218 true t4 .nilPtr) t4 .nilPtr fun t6 =>
K.iteV t6 (
K.unmarkK [] h5 fun h7 => .ok .nilSlice h7) (
K.nilK t4 fun t8 =>
K.fldK 1 t8 fun t9 =>
K.ldK ctx 85 t9 h5 fun t10 =>
K.callFK run 130 [t10] h5 fun t11 h12 =>
K.unmarkK [] h12 fun h13 => .ok t11 h13))
noncomputable def r100 : K.KRun → List AV → H → K.KR := fun run args h => K.uncons args fun t0 l1 => K.uncons l1 fun t2 l3 => K.unnil l3 (
K.letK (fun (l4 : List AV) (m5 : List Nat) (h6 : H) => K.unnil l4 (
K.unmarkK m5 h6 fun h8 => .ok (.int .i64 (.negSucc 0)) h8)) fun j7 =>
K.lenVK t0 fun t9 =>
K.loopV (nat_lit 1000000) (fun s13 l10 m11 h12 => K.uncons l10 fun t14 l15 => K.uncons l15 fun t16 l17 => K.uncons l17 fun t18 l19 => K.uncons l19 fun t20 l21 => K.unnil l21 (
K.ltK (K.binV ctx .lss 3 false t20 t18) t20 t18 fun t22 =>
K.iteV t22 (
K.idxSK 13 t14 t20 fun t23 =>
K.ldsK ctx 89 13 t23 h12 fun t24 =>
K.callVK run t16 [t24] h12 fun t25 h26 =>
K.iteV t25 (
K.unmarkK m11 h26 fun h27 => .ok t20 h27) (
K.addK (K.binV ctx .add 3 true t20 (.int .i64 (.ofNat 1))) t20 (.int .i64 (.ofNat 1)) fun t28 =>
s13 [t14, t16, t18, t28] m11 h26)) (
j7 [] m11 h12))) [t0, t2, t9, (.int .i64 (.ofNat 0))] [] h)
noncomputable def r101 : K.KRun → List AV → H → K.KR := fun run args h => K.uncons args fun t0 l1 => K.uncons l1 fun t2 l3 => K.unnil l3 (
K.letK (fun (l4 : List AV) (m5 : List Nat) (h6 : H) => K.uncons l4 fun t8 l9 => K.uncons l9 fun t10 l11 => K.unnil l11 (
K.letK (fun (l12 : List AV) (m13 : List Nat) (h14 : H) => K.uncons l12 fun t16 l17 => K.unnil l17 (
K.unmarkK m13 h14 fun h18 => .ok t16 h18)) fun j15 =>
K.slowK ctx run (K.opAt Go.Proofs.Tryz.f101 3 2) [9] [t8] h6 fun t19 h20 =>
K.lenVK t8 fun t21 =>
K.subK (K.binV ctx .sub 3 false t19 t21) t19 t21 fun t22 =>
K.subK (K.binV ctx .sub 3 false t10 t22) t10 t22 fun t23 =>
K.gtK (K.binV ctx .gtr 3 true t23 (.int .i64 (.ofNat 0))) t23 (.int .i64 (.ofNat 0)) fun t24 =>
K.iteV t24 (
K.slowK ctx run (K.opAt Go.Proofs.Tryz.f101 5 2) [18] [t8] h20 fun t25 h26 =>
K.slcK ctx 77 t8 none (some t25) none h26 fun t27 =>
K.slowK ctx run (K.opAt Go.Proofs.Tryz.f101 5 5) [20, 21] [t27, t23] h26 fun t28 h29 =>
K.lenVK t8 fun t30 =>
K.slcK ctx 77 t28 none (some t30) none h29 fun t31 =>
j15 [t31] m5 h29) (
j15 [t8] m5 h20))) fun j7 =>
K.ltK (K.binV ctx .lss 3 true t2 (.int .i64 (.ofNat 0))) t2 (.int .i64 (.ofNat 0)) fun t32 =>
K.iteV t32 (
K.slowK ctx run (K.opAt Go.Proofs.Tryz.f101 2 1) [7] [(.iface 9 (.str [99, 97, 110, 110, 111, 116, 32, 98, 101, 32, 110, 101, 103, 97, 116, 105, 118, 101]))] h fun t33 h34 =>
j7 [t0, t2] [] h34) (
j7 [t0, t2] [] h))
noncomputable def r102 : K.KRun → List AV → H → K.KR := fun run args h => K.uncons args fun t0 l1 => K.uncons l1 fun t2 l3 => K.unnil l3 (
K.allocK (K.zN ctx 143) (K.zT ctx 143) h fun t4 h5 =>
K.callFK run 131 [t0, t2] h5 fun t6 h7 =>
K.extK t6 0 fun t8 =>
K.extK t6 1 fun t9 =>
K.neK (K.binV ctx .neq 29 true t9 (.int .i64 (.ofNat 0))) t9 (.int .i64 (.ofNat 0)) fun t10 =>
K.iteV t10 (
K.bldSK ctx 143 [] fun t11 =>
K.stsK 3 t4 t11 h7 fun h12 =>
K.unmarkK [] h12 fun h13 => K.asPtr t4 fun n14 n15 => K.loads h13 n14 n15 3 fun t16 => .ok (.tup [(.agg t16), t9]) h13) (
K.callFK run 104 [t0, t8] h7 fun t17 h18 =>
K.gtK (K.binV ctx .gtr 23 true t17 (.int .u64 (.ofNat 1))) t17 (.int .u64 (.ofNat 1)) fun t19 =>
K.iteV t19 (
K.bldSK ctx 143 [] fun t20 =>
K.stsK 3 t4 t20 h18 fun h21 =>
K.unmarkK [] h21 fun h22 => K.asPtr t4 fun n23 n24 => K.loads h22 n23 n24 3 fun t25 => .ok (.tup [(.agg t25), (.int .i64 (.ofNat 4))]) h22) (
K.eqK (K.binV ctx .eql 23 true t17 (.int .u64 (.ofNat 1))) t17 (.int .u64 (.ofNat 1)) fun t26 =>
K.addK (K.binV ctx .add 3 true t8 (.int .i64 (.ofNat 1))) t8 (.int .i64 (.ofNat 1)) fun t27 =>
K.callFK run 104 [t0, t27] h18 fun t28 h29 =>
K.addK (K.binV ctx .add 3 true t8 (.int .i64 (.ofNat 2))) t8 (.int .i64 (.ofNat 2)) fun t30 =>
K.callFK run 104 [t0, t30] h29 fun t31 h32 =>
K.bldSK ctx 143 [(0, t26), (1, t28), (2, t31)] fun t33 =>
K.stsK 3 t4 t33 h32 fun h34 =>
K.unmarkK [] h34 fun h35 => K.asPtr t4 fun n36 n37 => K.loads h35 n36 n37 3 fun t38 => .ok (.tup [(.agg t38), (.int .i64 (.ofNat 0))]) h35)))
noncomputable def r103 : K.KRun → List AV → H → K.KR := fun run args h => K.uncons args fun t0 l1 => K.uncons l1 fun t2 l3 => K.uncons l3 fun t4 l5 => K.unnil l5 (
K.callFK run 132 [t2, t4] h fun t6 h7 =>
K.neK (K.binV ctx .neq 97 true t0 .nilPtr) t0 .nilPtr fun t8 =>
K.letK (fun (t9 : AV) (h10 : H) => K.letK (fun (t12 : AV) (h13 : H) => K.pickK t8 t12 (.bool false) fun t15 =>
K.iteV t15 (
K.unmarkK [] h13 fun h16 => .ok (.tup [(.int .i64 (.ofNat 0)), (.int .i64 (.ofNat 1))]) h16) (
K.callFK run 131 [t0, t2] h13 fun t17 h18 =>
K.extK t17 0 fun t19 =>
K.extK t17 1 fun t20 =>
K.unmarkK [] h18 fun h21 => .ok (.tup [t6, t20]) h21)) fun j14 =>
K.guK true t8 (K.ltK (K.binV ctx .lss 3 true t9 (.int .i64 (.ofNat 0))) t9 (.int .i64 (.ofNat 0)) fun t22 =>
j14 t22 h10) (j14 (.tup []) h10)) fun j11 =>
K.guK true t8 (j11 t6 h7) (j11 (.tup []) h7))
noncomputable def r104 : K.KRun → List AV → H → K.KR := fun run args h => K.uncons args fun t0 l1 => K.uncons l1 fun t2 l3 => K.unnil l3 (
K.callFK run 133 [t0, t2] h fun t4 h5 =>
K.notK t4 fun t6 =>
K.iteV t6 (
K.unmarkK [] h5 fun h7 => .ok (.int .u64 (.ofNat 0)) h7) (
K.nilK t0 fun t8 =>
K.fldK 1 t8 fun t9 =>
K.ldK ctx 149 t9 h5 fun t10 =>
K.slowK ctx run (K.opAt Go.Proofs.Tryz.f104 3 5) [15, 16] [t10, t2] h5 fun t11 h12 =>
K.extK t11 0 fun t13 =>
K.extK t11 1 fun t14 =>
K.iteV t14 (
K.unmarkK [] h12 fun h15 => .ok t13 h15) (
K.nilK t0 fun t16 =>
K.fldK 0 t16 fun t17 =>
K.ldK ctx 50 t17 h12 fun t18 =>
K.idxSK 1 t18 t2 fun t19 =>
K.ldK ctx 23 t19 h12 fun t20 =>
K.unmarkK [] h12 fun h21 => .ok t20 h21)))
noncomputable def r106 : K.KRun → List AV → H → K.KR := fun run args h => K.uncons args fun t0 l1 => K.unnil l1 (
K.boxK t0 h fun t2 h3 =>
K.unmarkK [] h3 fun h4 => .ok (.func (.func 134) [] [t2]) h4)
noncomputable def r108 : K.KRun → List AV → H → K.KR := fun run args h => K.uncons args fun t0 l1 => K.uncons l1 fun t2 l3 => K.unnil l3 (
K.ldK ctx 50 t2 h fun t4 =>
K.lenVK t4 fun t5 =>
K.subK (K.binV ctx .sub 3 true t5 (.int .i64 (.ofNat 1))) t5 (.int .i64 (.ofNat 1)) fun t6 =>
K.loopV (nat_lit 1000000) (fun s10 l7 m8 h9 => K.uncons l7 fun t11 l12 => K.uncons l12 fun t13 l14 => K.uncons l14 fun t15 l16 => K.unnil l16 (
K.geK (K.binV ctx .geq 3 true t15 (.int .i64 (.ofNat 0))) t15 (.int .i64 (.ofNat 0)) fun t17 =>
K.iteV t17 (
K.ldK ctx 50 t13 h9 fun t18 =>
K.idxSK 1 t18 t15 fun t19 =>
K.ldK ctx 23 t19 h9 fun t20 =>
K.callVK run t11 [t15, t20] h9 fun t21 h22 =>
K.notK t21 fun t23 =>
K.iteV t23 (
K.unmarkK m8 h22 fun h24 => .ok (.tup []) h24) (
K.subK (K.binV ctx .sub 3 true t15 (.int .i64 (.ofNat 1))) t15 (.int .i64 (.ofNat 1)) fun t25 =>
s10 [t11, t13, t25] m8 h22)) (
K.unmarkK m8 h9 fun h26 => .ok (.tup []) h26))) [t0, t2, t6] [] h)
noncomputable def r109 : K.KRun → List AV → H → K.KR := fun run args h => K.uncons args fun t0 l1 => K.unnil l1 (
K.nilK t0 fun t2 =>
K.fldK 1 t2 fun t3 =>
K.ldK ctx 23 t3 h fun t4 =>
K.bldSK ctx 117 [(0, (.bool true)), (1, (.bool true)), (3, t4)] fun t5 =>
K.nilK t0 fun t6 =>
K.fldK 2 t6 fun t7 =>
K.stsK 4 t7 t5 h fun h8 =>
K.unmarkK [] h8 fun h9 => .ok (.tup []) h9)
noncomputable def r110 : K.KRun → List AV → H → K.KR := fun run args h => K.uncons args fun t0 l1 => K.uncons l1 fun t2 l3 => K.unnil l3 (
K.boxK t2 h fun t4 h5 =>
K.eqK (K.binV ctx .eql 46 true t0 .nilPtr) t0 .nilPtr fun t6 =>
K.iteV t6 (
K.unmarkK [] h5 fun h7 => .ok (.int .i64 (.ofNat 2)) h7) (
K.letK (fun (l8 : List AV) (m9 : List Nat) (h10 : H) => K.unnil l8 (
K.unmarkK m9 h10 fun h12 => .ok (.int .i64 (.ofNat 0)) h12)) fun j11 =>
K.nilK t0 fun t13 =>
K.fldK 0 t13 fun t14 =>
K.ldK ctx 99 t14 h5 fun t15 =>
K.callFK run 106 [t15] h5 fun t16 h17 =>
K.hNew h17 .marks fun r18 h19 => K.hNew h19 (.loop .ready none (K.mkT [3, 13] [t4, t16]) 4 r18) fun n20 h21 =>
K.rngK ctx run t16 n20 h21 (fun h23 => j11 [] (r18 :: []) h23) (fun h24 => K.unmarkK (r18 :: []) h24 fun h27 => .bad) fun i22 h25 => (Bool.rec (motive := fun _ => K.KR) (.bad) (j11 [] (r18 :: []) h25) (Nat.beq i22 0))))
noncomputable def r111 : K.KRun → List AV → H → K.KR := fun run args h => K.uncons args fun t0 l1 => K.unnil l1 (
K.eqK (K.binV ctx .eql 46 true t0 .nilPtr) t0 .nilPtr fun t2 =>
K.iteV t2 (
K.unmarkK [] h fun h3 => .ok (.tup [.nilPtr, (.int .i64 (.ofNat 2))]) h3) (
K.callFK run 25 [t0] h fun t4 h5 =>
K.callFK run 26 [t4] h5 fun t6 h7 =>
K.extK t6 0 fun t8 =>
K.extK t6 1 fun t9 =>
K.allocK (K.zN ctx 53) (K.zT ctx 53) h7 fun t10 h11 =>
K.stsK 3 t10 t8 h11 fun h12 =>
K.notK t9 fun t13 =>
K.iteV t13 (
K.unmarkK [] h12 fun h14 => .ok (.tup [.nilPtr, (.int .i64 (.ofNat 4))]) h14) (
K.ldsK ctx 53 3 t10 h12 fun t15 =>
K.bldSK ctx 226 [(0, t0), (1, t15)] fun t16 =>
K.boxK t16 h12 fun t17 h18 =>
K.callFK run 136 [t17, (.int .i64 (.ofNat 0))] h18 fun t19 h20 =>
K.unmarkK [] h20 fun h21 => .ok (.tup [t17, (.int .i64 (.ofNat 0))]) h21)))
noncomputable def r112 : K.KRun → List AV → H → K.KR := fun run args h => K.uncons args fun t0 l1 => K.unnil l1 (
K.nilK t0 fun t2 =>
K.fldK 2 t2 fun t3 =>
K.ldK ctx 109 t3 h fun t4 =>
K.callFK run 137 [t4] h fun t5 h6 =>
K.gtK (K.binV ctx .gtr 3 true t5 (.int .i64 (.ofNat 0))) t5 (.int .i64 (.ofNat 0)) fun t7 =>
K.iteV t7 (
K.unmarkK [] h6 fun h8 => .ok (.int .i64 (.ofNat 0)) h8) (
K.nilK t0 fun t9 =>
K.fldK 0 t9 fun t10 =>
K.ldK ctx 46 t10 h6 fun t11 =>
K.callFK run 5 [t11] h6 fun t12 h13 =>
K.extK t12 0 fun t14 =>
K.extK t12 1 fun t15 =>
K.letK (fun (l16 : List AV) (m17 : List Nat) (h18 : H) => K.uncons l16 fun t20 l21 => K.unnil l21 (
K.unmarkK m17 h18 fun h22 => .ok t20 h22)) fun j19 =>
K.eqK (K.binV ctx .eql 29 true t15 (.int .i64 (.ofNat 0))) t15 (.int .i64 (.ofNat 0)) fun t23 =>
K.iteV t23 (
K.nilK t0 fun t24 =>
K.fldK 1 t24 fun t25 =>
K.stK t25 t14 h13 fun h26 =>
K.nilK t0 fun t27 =>
K.fldK 2 t27 fun t28 =>
K.stK t28 .nilPtr h26 fun h29 =>
j19 [t15] [] h29) (
j19 [t15] [] h13)))
noncomputable def r113 : K.KRun → List AV → H → K.KR := fun run args h => K.uncons args fun t0 l1 => K.unnil l1 (
K.eqK (K.binV ctx .eql 109 true t0 .nilPtr) t0 .nilPtr fun t2 =>
K.iteV t2 (
K.unmarkK [] h fun h3 => .ok (.tup [(.int .u8 (.ofNat 0)), (.int .i64 (.ofNat 2))]) h3) (
K.nilK t0 fun t4 =>
K.fldK 5 t4 fun t5 =>
K.ldK ctx 128 t5 h fun t6 =>
K.eqK (K.binV ctx .eql 128 true t6 .nilPtr) t6 .nilPtr fun t7 =>
K.iteV t7 (
K.unmarkK [] h fun h8 => .ok (.tup [(.int .u8 (.ofNat 0)), (.int .i64 (.ofNat 3))]) h8) (
K.nilK t0 fun t9 =>
K.fldK 5 t9 fun t10 =>
K.ldK ctx 128 t10 h fun t11 =>
K.callFK run 138 [t11] h fun t12 h13 =>
K.extK t12 0 fun t14 =>
K.extK t12 1 fun t15 =>
K.letK (fun (l16 : List AV) (m17 : List Nat) (h18 : H) => K.uncons l16 fun t20 l21 => K.uncons l21 fun t22 l23 => K.unnil l23 (
K.unmarkK m17 h18 fun h24 => .ok (.tup [t20, t22]) h24)) fun j19 =>
K.nilK t0 fun t25 =>
K.fldK 5 t25 fun t26 =>
K.ldK ctx 128 t26 h13 fun t27 =>
K.callFK run 139 [t27] h13 fun t28 h29 =>
K.eqK (K.binV ctx .eql 3 true t28 (.int .i64 (.ofNat 0))) t28 (.int .i64 (.ofNat 0)) fun t30 =>
K.iteV t30 (
K.nilK t0 fun t31 =>
K.fldK 4 t31 fun t32 =>
K.ldK ctx 3 t32 h29 fun t33 =>
K.addK (K.binV ctx .add 3 true t33 (.int .i64 (.ofNat 1))) t33 (.int .i64 (.ofNat 1)) fun t34 =>
K.callFK run 136 [t0, t34] h29 fun t35 h36 =>
j19 [t14, t15] [] h36) (
j19 [t14, t15] [] h29))))
noncomputable def r114 : K.KRun → List AV → H → K.KR := fun run args h => K.uncons args fun t0 l1 => K.uncons l1 fun t2 l3 => K.unnil l3 (
K.letK (fun (l4 : List AV) (m5 : List Nat) (h6 : H) => K.uncons l4 fun t8 l9 => K.unnil l9 (
K.unmarkK m5 h6 fun h10 => .ok t8 h10)) fun j7 =>
K.nilK t0 fun t11 =>
K.fldK 1 t11 fun t12 =>
K.ldK ctx 28 t12 h fun t13 =>
K.callFK run 14 [t13] h fun t14 h15 =>
K.loopV (nat_lit 1000000) (fun s19 l16 m17 h18 => K.uncons l16 fun t20 l21 => K.uncons l21 fun t22 l23 => K.uncons l23 fun t24 l25 => K.uncons l25 fun t26 l27 => K.uncons l27 fun t28 l29 => K.unnil l29 (
K.ltK (K.binV ctx .lss 3 false t28 t26) t28 t26 fun t30 =>
K.iteV t30 (
K.letK (fun (l31 : List AV) (m32 : List Nat) (h33 : H) => K.uncons l31 fun t35 l36 => K.uncons l36 fun t37 l38 => K.uncons l38 fun t39 l40 => K.uncons l40 fun t41 l42 => K.uncons l42 fun t43 l44 => K.unnil l44 (
K.addK (K.binV ctx .add 3 true t43 (.int .i64 (.ofNat 1))) t43 (.int .i64 (.ofNat 1)) fun t45 =>
s19 [t35, t37, t39, t41, t45] m32 h33)) fun j34 =>
K.ltK (K.binV ctx .lss 3 false t24 t22) t24 t22 fun t46 =>
K.letK (fun (t47 : AV) (h48 : H) => K.letK (fun (t50 : AV) (h51 : H) => K.letK (fun (t53 : AV) (h54 : H) => K.letK (fun (t56 : AV) (h57 : H) => K.letK (fun (t59 : AV) (h60 : H) => K.letK (fun (t62 : AV) (h63 : H) => K.letK (fun (t65 : AV) (h66 : H) => K.letK (fun (t68 : AV) (h69 : H) => K.letK (fun (t71 : AV) (h72 : H) => K.letK (fun (t74 : AV) (h75 : H) => K.letK (fun (t77 : AV) (h78 : H) => K.letK (fun (t80 : AV) (h81 : H) => K.letK (fun (t83 : AV) (h84 : H) => K.letK (fun (t86 : AV) (h87 : H) => K.letK (fun (t89 : AV) (h90 : H) => K.pickK t46 t89 (.bool false) fun t92 =>
K.iteV t92 (
K.nilK t20 fun t93 =>
K.fldK 1 t93 fun t94 =>
K.ldK ctx 28 t94 h90 fun t95 =>
K.callFK run 7 [t95, t28] h90 fun t96 h97 =>
K.addK (K.binV ctx .add 3 true t24 (.int .i64 (.ofNat 1))) t24 (.int .i64 (.ofNat 1)) fun t98 =>
j34 [t20, t22, t98, t26, t28] m17 h97) (
j34 [t20, t22, t24, t26, t28] m17 h90)) fun j91 =>
K.guK true t46 (K.pickK t68 (.bool true) t86 fun t99 =>
j91 t99 h87) (j91 (.tup []) h87)) fun j88 =>
K.guK false t68 (K.gtK (K.binV ctx .gtr 3 true t83 (.int .i64 (.ofNat 0))) t83 (.int .i64 (.ofNat 0)) fun t100 =>
j88 t100 h84) (j88 (.tup []) h84)) fun j85 =>
K.guK false t68 (K.callFK run 15 [t80] h81 fun t101 h102 =>
j85 t101 h102) (j85 (.tup []) h81)) fun j82 =>
K.guK false t68 (K.ldK ctx 28 t77 h78 fun t103 =>
j82 t103 h78) (j82 (.tup []) h78)) fun j79 =>
K.guK false t68 (K.fldK 1 t74 fun t104 =>
j79 t104 h75) (j79 (.tup []) h75)) fun j76 =>
K.guK false t68 (K.nilK t71 fun t105 =>
j76 t105 h72) (j76 (.tup []) h72)) fun j73 =>
K.guK false t68 (j73 t20 h69) (j73 (.tup []) h69)) fun j70 =>
K.guK true t46 (j70 t65 h66) (j70 (.tup []) h66)) fun j67 =>
K.guK true t46 (K.gtK (K.binV ctx .gtr 3 true t62 (.int .i64 (.ofNat 0))) t62 (.int .i64 (.ofNat 0)) fun t106 =>
j67 t106 h63) (j67 (.tup []) h63)) fun j64 =>
K.guK true t46 (K.callFK run 16 [t56, t59] h60 fun t107 h108 =>
j64 t107 h108) (j64 (.tup []) h60)) fun j61 =>
K.guK true t46 (j61 t28 h57) (j61 (.tup []) h57)) fun j58 =>
K.guK true t46 (K.ldK ctx 28 t53 h54 fun t109 =>
j58 t109 h54) (j58 (.tup []) h54)) fun j55 =>
K.guK true t46 (K.fldK 1 t50 fun t110 =>
j55 t110 h51) (j55 (.tup []) h51)) fun j52 =>
K.guK true t46 (K.nilK t47 fun t111 =>
j52 t111 h48) (j52 (.tup []) h48)) fun j49 =>
K.guK true t46 (j49 t20 h18) (j49 (.tup []) h18)) (
j7 [t24] m17 h18))) [t0, t2, (.int .i64 (.ofNat 0)), t14, (.int .i64 (.ofNat 0))] [] h15)
noncomputable def r115 : K.KRun → List AV → H → K.KR := fun run args h => K.uncons args fun t0 l1 => K.uncons l1 fun t2 l3 => K.uncons l3 fun t4 l5 => K.unnil l5 (
K.ltK (K.binV ctx .lss 3 true t2 (.int .i64 (.ofNat 0))) t2 (.int .i64 (.ofNat 0)) fun t6 =>
K.letK (fun (t7 : AV) (h8 : H) => K.letK (fun (t10 : AV) (h11 : H) => K.letK (fun (t13 : AV) (h14 : H) => K.pickK t6 (.bool true) t13 fun t16 =>
K.iteV t16 (
K.unmarkK [] h14 fun h17 => .ok (.int .i64 (.negSucc 0)) h17) (
K.addK (K.binV ctx .add 3 false t0 t2) t0 t2 fun t18 =>
K.unmarkK [] h14 fun h19 => .ok t18 h19)) fun j15 =>
K.guK false t6 (K.geK (K.binV ctx .geq 3 false t7 t10) t7 t10 fun t20 =>
j15 t20 h11) (j15 (.tup []) h11)) fun j12 =>
K.guK false t6 (j12 t4 h8) (j12 (.tup []) h8)) fun j9 =>
K.guK false t6 (j9 t2 h) (j9 (.tup []) h))
noncomputable def r119 : K.KRun → List AV → H → K.KR := fun run args h => K.uncons args fun t0 l1 => K.unnil l1 (
K.callFK run 144 [.nilSlice, t0] h fun t2 h3 =>
K.unmarkK [] h3 fun h4 => .ok t2 h4)
noncomputable def r120 : K.KRun → List AV → H → K.KR := fun run args h => K.uncons args fun t0 l1 => K.unnil l1 (
K.lenVK t0 fun t2 =>
K.rK (convA ctx 3 239 t2 h) fun t3 h4 =>
K.callFK run 146 [t3] h4 fun t5 h6 =>
K.callFK run 145 [t0, (.int .i64 (.ofNat 0)), t2, t5] h6 fun t7 h8 =>
K.unmarkK [] h8 fun h9 => .ok (.tup []) h9)
noncomputable def r121 : K.KRun → List AV → H → K.KR := fun run args h => K.uncons args fun t0 l1 => K.uncons l1 fun t2 l3 => K.unnil l3 (
K.ldK ctx 174 t2 h fun t4 =>
K.slowK ctx run (K.opAt Go.Proofs.Tryz.f121 0 1) [4] [t4] h fun t5 h6 =>
K.loopV (nat_lit 1000000) (fun s10 l7 m8 h9 => K.uncons l7 fun t11 l12 => K.uncons l12 fun t13 l14 => K.unnil l14 (
K.slowK ctx run (K.opAt Go.Proofs.Tryz.f121 1 0) [5] [t13] h9 fun t15 h16 =>
K.extK t15 0 fun t17 =>
K.iteV t17 (
K.slowK ctx run (K.opAt Go.Proofs.Tryz.f121 2 0) [5] [t13] h16 fun t18 h19 =>
K.extK t18 0 fun t20 =>
K.callVK run t11 [t20] h19 fun t21 h22 =>
K.notK t21 fun t23 =>
K.iteV t23 (
K.unmarkK m8 h22 fun h24 => .ok (.tup []) h24) (
s10 [t11, t13] m8 h22)) (
K.unmarkK m8 h16 fun h25 => .ok (.tup []) h25))) [t0, t5] [] h6)
noncomputable def r122 : K.KRun → List AV → H → K.KR := fun run args h => K.uncons args fun t0 l1 => K.uncons l1 fun t2 l3 => K.unnil l3 (
K.letK (fun (l4 : List AV) (m5 : List Nat) (h6 : H) => K.uncons l4 fun t8 l9 => K.unnil l9 (
K.unmarkK m5 h6 fun h10 => .ok t8 h10)) fun j7 =>
K.loopV (nat_lit 1000000) (fun s14 l11 m12 h13 => K.uncons l11 fun t15 l16 => K.uncons l16 fun t17 l18 => K.uncons l18 fun t19 l20 => K.uncons l20 fun t21 l22 => K.unnil l22 (
K.ltK (K.binV ctx .lss 3 true t21 (.int .i64 (.ofNat 70))) t21 (.int .i64 (.ofNat 70)) fun t23 =>
K.iteV t23 (
K.letK (fun (l24 : List AV) (m25 : List Nat) (h26 : H) => K.uncons l24 fun t28 l29 => K.uncons l29 fun t30 l31 => K.uncons l31 fun t32 l33 => K.uncons l33 fun t34 l35 => K.unnil l35 (
K.addK (K.binV ctx .add 3 true t34 (.int .i64 (.ofNat 1))) t34 (.int .i64 (.ofNat 1)) fun t36 =>
s14 [t28, t30, t32, t36] m25 h26)) fun j27 =>
K.callFK run 147 [t15, t17, t21] h13 fun t37 h38 =>
K.iteV t37 (
K.bslK ctx 3 1 1 [(0, t21)] h38 fun t39 h40 =>
K.appK ctx 3 1 t19 t39 h40 fun t41 h42 =>
j27 [t15, t17, t41, t21] m12 h42) (
j27 [t15, t17, t19, t21] m12 h38)) (
j7 [t19] m12 h13))) [t0, t2, .nilSlice, (.int .i64 (.ofNat 0))] [] h)
noncomputable def r123 : K.KRun → List AV → H → K.KR := fun run args h => K.uncons args fun t0 l1 => K.unnil l1 (
K.letK (fun (l2 : List AV) (m3 : List Nat) (h4 : H) => K.uncons l2 fun t6 l7 => K.unnil l7 (
K.idxSK 1 t6 (.int .i64 (.ofNat 0)) fun t8 =>
K.ldK ctx 3 t8 h4 fun t9 =>
K.letK (fun (l10 : List AV) (m11 : List Nat) (h12 : H) => K.uncons l10 fun t14 l15 => K.unnil l15 (
K.unmarkK m11 h12 fun h16 => .ok t14 h16)) fun j13 =>
K.loopV (nat_lit 1000000) (fun s20 l17 m18 h19 => K.uncons l17 fun t21 l22 => K.uncons l22 fun t23 l24 => K.uncons l24 fun t25 l26 => K.unnil l26 (
K.lenVK t21 fun t27 =>
K.ltK (K.binV ctx .lss 3 false t25 t27) t25 t27 fun t28 =>
K.iteV t28 (
K.idxSK 1 t21 t25 fun t29 =>
K.ldK ctx 3 t29 h19 fun t30 =>
K.slowK ctx run (K.opAt Go.Proofs.Tryz.f123 7 5) [18, 22] [t23, t30] h19 fun t31 h32 =>
K.addK (K.binV ctx .add 3 true t25 (.int .i64 (.ofNat 1))) t25 (.int .i64 (.ofNat 1)) fun t33 =>
s20 [t21, t31, t33] m18 h32) (
j13 [t23] m18 h19))) [t6, t9, (.int .i64 (.ofNat 1))] m3 h4)) fun j5 =>
K.lenVK t0 fun t34 =>
K.ltK (K.binV ctx .lss 3 true t34 (.int .i64 (.ofNat 1))) t34 (.int .i64 (.ofNat 1)) fun t35 =>
K.iteV t35 (
K.slowK ctx run (K.opAt Go.Proofs.Tryz.f123 2 1) [8] [(.iface 9 (.str [115, 108, 105, 99, 101, 115, 46, 77, 97, 120, 58, 32, 101, 109, 112, 116, 121, 32, 108, 105, 115, 116]))] h fun t36 h37 =>
j5 [t0] [] h37) (
j5 [t0] [] h))
noncomputable def r124 : K.KRun → List AV → H → K.KR := fun run args h => K.uncons args fun t0 l1 => K.uncons l1 fun t2 l3 => K.uncons l3 fun t4 l5 => K.unnil l5 (
K.boxK t4 h fun t6 h7 =>
K.eqK (K.binV ctx .eql 74 true t0 .nilPtr) t0 .nilPtr fun t8 =>
K.iteV t8 (
K.unmarkK [] h7 fun h9 => .ok (.tup [(.bool false), (.int .i64 (.ofNat 2))]) h9) (
K.ldK ctx 3 t6 h7 fun t10 =>
K.callFK run 129 [t0, t10] h7 fun t11 h12 =>
K.ltK (K.binV ctx .lss 3 true t2 (.int .i64 (.ofNat 0))) t2 (.int .i64 (.ofNat 0)) fun t13 =>
K.letK (fun (t14 : AV) (h15 : H) => K.letK (fun (t17 : AV) (h18 : H) => K.letK (fun (t20 : AV) (h21 : H) => K.letK (fun (t23 : AV) (h24 : H) => K.letK (fun (t26 : AV) (h27 : H) => K.letK (fun (t29 : AV) (h30 : H) => K.pickK t13 (.bool true) t29 fun t32 =>
K.letK (fun (t33 : AV) (h34 : H) => K.letK (fun (t36 : AV) (h37 : H) => K.pickK t32 (.bool true) t36 fun t39 =>
K.letK (fun (t40 : AV) (h41 : H) => K.letK (fun (t43 : AV) (h44 : H) => K.letK (fun (t46 : AV) (h47 : H) => K.letK (fun (t49 : AV) (h50 : H) => K.letK (fun (t52 : AV) (h53 : H) => K.pickK t39 (.bool true) t52 fun t55 =>
K.iteV t55 (
K.unmarkK [] h53 fun h56 => .ok (.tup [(.bool false), (.int .i64 (.ofNat 1))]) h56) (
K.callFK run 58 [t0, t2] h53 fun t57 h58 =>
K.extK t57 0 fun t59 =>
K.extK t57 1 fun t60 =>
K.iteV t60 (
K.unmarkK [] h58 fun h61 => .ok (.tup [(.bool false), (.int .i64 (.ofNat 3))]) h61) (
K.nilK t11 fun t62 =>
K.fldK 0 t62 fun t63 =>
K.ldK ctx 3 t63 h58 fun t64 =>
K.neK (K.binV ctx .neq 3 true t64 (.int .i64 (.ofNat 0))) t64 (.int .i64 (.ofNat 0)) fun t65 =>
K.iteV t65 (
K.nilK t11 fun t66 =>
K.fldK 1 t66 fun t67 =>
K.ldK ctx 85 t67 h58 fun t68 =>
K.bslK ctx 3 1 1 [(0, t2)] h58 fun t69 h70 =>
K.appK ctx 3 1 t68 t69 h70 fun t71 h72 =>
K.nilK t11 fun t73 =>
K.fldK 1 t73 fun t74 =>
K.stK t74 t71 h72 fun h75 =>
K.unmarkK [] h75 fun h76 => .ok (.tup [(.bool false), (.int .i64 (.ofNat 0))]) h76) (
K.addK (K.binV ctx .add 3 true t2 (.int .i64 (.ofNat 1))) t2 (.int .i64 (.ofNat 1)) fun t77 =>
K.nilK t11 fun t78 =>
K.fldK 0 t78 fun t79 =>
K.stK t79 t77 h58 fun h80 =>
K.unmarkK [] h80 fun h81 => .ok (.tup [(.bool true), (.int .i64 (.ofNat 0))]) h81)))) fun j54 =>
K.guK false t39 (K.callFK run 148 [t46, t49] h50 fun t82 h83 =>
j54 t82 h83) (j54 (.tup []) h50)) fun j51 =>
K.guK false t39 (j51 (.func (.func 149) [] [t6]) h47) (j51 (.tup []) h47)) fun j48 =>
K.guK false t39 (K.callFK run 122 [t40, t43] h44 fun t84 h85 =>
j48 t84 h85) (j48 (.tup []) h44)) fun j45 =>
K.guK false t39 (j45 t2 h41) (j45 (.tup []) h41)) fun j42 =>
K.guK false t39 (j42 t0 h37) (j42 (.tup []) h37)) fun j38 =>
K.guK false t32 (K.eqK (K.binV ctx .eql 218 true t33 .nilPtr) t33 .nilPtr fun t86 =>
j38 t86 h34) (j38 (.tup []) h34)) fun j35 =>
K.guK false t32 (j35 t11 h30) (j35 (.tup []) h30)) fun j31 =>
K.guK false t13 (K.geK (K.binV ctx .geq 3 false t14 t26) t14 t26 fun t87 =>
j31 t87 h27) (j31 (.tup []) h27)) fun j28 =>
K.guK false t13 (K.ldK ctx 3 t23 h24 fun t88 =>
j28 t88 h24) (j28 (.tup []) h24)) fun j25 =>
K.guK false t13 (K.fldK 0 t20 fun t89 =>
j25 t89 h21) (j25 (.tup []) h21)) fun j22 =>
K.guK false t13 (K.nilK t17 fun t90 =>
j22 t90 h18) (j22 (.tup []) h18)) fun j19 =>
K.guK false t13 (j19 t0 h15) (j19 (.tup []) h15)) fun j16 =>
K.guK false t13 (j16 t2 h12) (j16 (.tup []) h12)))
noncomputable def r125 : K.KRun → List AV → H → K.KR := fun run args h => K.uncons args fun t0 l1 => K.uncons l1 fun t2 l3 => K.unnil l3 (
K.boxK t2 h fun t4 h5 =>
K.allocK (K.zN ctx 41) (K.zT ctx 41) h5 fun t6 h7 =>
K.ldsK ctx 27 12 t4 h7 fun t8 =>
K.callFK run 55 [t8] h7 fun t9 h10 =>
K.notK t9 fun t11 =>
K.iteV t11 (
K.bldSK ctx 41 [(1, (.int .i64 (.ofNat 1)))] fun t12 =>
K.stsK 7 t6 t12 h10 fun h13 =>
K.unmarkK [] h13 fun h14 => K.asPtr t6 fun n15 n16 => K.loads h14 n15 n16 7 fun t17 => .ok (.tup [(.agg t17), .nilSlice]) h14) (
K.letK (fun (l18 : List AV) (m19 : List Nat) (h20 : H) => K.uncons l18 fun t22 l23 => K.uncons l23 fun t24 l25 => K.unnil l25 (
K.ldsK ctx 41 7 t22 h20 fun t26 =>
K.stsK 7 t22 t26 h20 fun h27 =>
K.unmarkK m19 h27 fun h28 => K.asPtr t22 fun n29 n30 => K.loads h28 n29 n30 7 fun t31 => .ok (.tup [(.agg t31), t24]) h28)) fun j21 =>
K.fldK 0 t4 fun t32 =>
K.ldK ctx 22 t32 h10 fun t33 =>
K.eqK (K.binV ctx .eql 22 true t33 (.int .u8 (.ofNat 1))) t33 (.int .u8 (.ofNat 1)) fun t34 =>
K.iteV t34 (
K.fldK 1 t4 fun t35 =>
K.ldK ctx 3 t35 h10 fun t36 =>
K.fldK 2 t4 fun t37 =>
K.ldK ctx 23 t37 h10 fun t38 =>
K.fldK 3 t4 fun t39 =>
K.ldK ctx 23 t39 h10 fun t40 =>
K.fldK 4 t4 fun t41 =>
K.ldsK ctx 25 8 t41 h10 fun t42 =>
K.callFK run 150 [t0, t36, t38, t40, t42] h10 fun t43 h44 =>
K.extK t43 0 fun t45 =>
K.extK t43 1 fun t46 =>
K.extK t43 2 fun t47 =>
K.extK t43 3 fun t48 =>
K.fldK 0 t6 fun t49 =>
K.stK t49 t45 h44 fun h50 =>
K.fldK 3 t6 fun t51 =>
K.stsK 4 t51 t46 h50 fun h52 =>
K.fldK 1 t6 fun t53 =>
K.stK t53 t48 h52 fun h54 =>
j21 [t6, t47] [] h54) (
K.eqK (K.binV ctx .eql 22 true t33 (.int .u8 (.ofNat 2))) t33 (.int .u8 (.ofNat 2)) fun t55 =>
K.iteV t55 (
K.fldK 1 t4 fun t56 =>
K.ldK ctx 3 t56 h10 fun t57 =>
K.fldK 2 t4 fun t58 =>
K.ldK ctx 23 t58 h10 fun t59 =>
K.fldK 3 t4 fun t60 =>
K.ldK ctx 23 t60 h10 fun t61 =>
K.callFK run 151 [t0, t57, t59, t61] h10 fun t62 h63 =>
K.extK t62 0 fun t64 =>
K.extK t62 1 fun t65 =>
K.extK t62 2 fun t66 =>
K.fldK 2 t6 fun t67 =>
K.stK t67 t64 h63 fun h68 =>
K.fldK 1 t6 fun t69 =>
K.stK t69 t66 h68 fun h70 =>
j21 [t6, t65] [] h70) (
K.eqK (K.binV ctx .eql 22 true t33 (.int .u8 (.ofNat 3))) t33 (.int .u8 (.ofNat 3)) fun t71 =>
K.iteV t71 (
K.fldK 1 t4 fun t72 =>
K.ldK ctx 3 t72 h10 fun t73 =>
K.fldK 2 t4 fun t74 =>
K.ldK ctx 23 t74 h10 fun t75 =>
K.callFK run 152 [t0, t73, t75] h10 fun t76 h77 =>
K.extK t76 0 fun t78 =>
K.extK t76 1 fun t79 =>
K.extK t76 2 fun t80 =>
K.fldK 0 t6 fun t81 =>
K.stK t81 t78 h77 fun h82 =>
K.fldK 1 t6 fun t83 =>
K.stK t83 t80 h82 fun h84 =>
j21 [t6, t79] [] h84) (
K.eqK (K.binV ctx .eql 22 true t33 (.int .u8 (.ofNat 4))) t33 (.int .u8 (.ofNat 4)) fun t85 =>
K.iteV t85 (
K.fldK 1 t4 fun t86 =>
K.ldK ctx 3 t86 h10 fun t87 =>
K.fldK 2 t4 fun t88 =>
K.ldK ctx 23 t88 h10 fun t89 =>
K.callFK run 153 [t0, t87, t89] h10 fun t90 h91 =>
K.extK t90 0 fun t92 =>
K.extK t90 1 fun t93 =>
K.extK t90 2 fun t94 =>
K.fldK 0 t6 fun t95 =>
K.stK t95 t92 h91 fun h96 =>
K.fldK 1 t6 fun t97 =>
K.stK t97 t94 h96 fun h98 =>
j21 [t6, t93] [] h98) (
j21 [t6, .nilSlice] [] h10))))))
noncomputable def r126 : K.KRun → List AV → H → K.KR := fun run args h => K.uncons args fun t0 l1 => K.uncons l1 fun t2 l3 => K.unnil l3 (
K.eqK (K.binV ctx .eql 128 true t0 .nilPtr) t0 .nilPtr fun t4 =>
K.iteV t4 (
K.unmarkK [] h fun h5 => .ok (.int .i64 (.ofNat 2)) h5) (
K.nilK t0 fun t6 =>
K.fldK 5 t6 fun t7 =>
K.ldK ctx 171 t7 h fun t8 =>
K.lenVK t8 fun t9 =>
K.gtK (K.binV ctx .gtr 3 true t9 (.int .i64 (.ofNat 0))) t9 (.int .i64 (.ofNat 0)) fun t10 =>
K.iteV t10 (
K.unmarkK [] h fun h11 => .ok (.int .i64 (.ofNat 3)) h11) (
K.nilK t0 fun t12 =>
K.fldK 1 t12 fun t13 =>
K.ldsK ctx 53 3 t13 h fun t14 =>
K.callFK run 154 [t14, t2] h fun t15 h16 =>
K.notK t15 fun t17 =>
K.iteV t17 (
K.unmarkK [] h16 fun h18 => .ok (.int .i64 (.ofNat 1)) h18) (
K.callFK run 155 [t2] h16 fun t19 h20 =>
K.extK t19 0 fun t21 =>
K.extK t19 1 fun t22 =>
K.neK (K.binV ctx .neq 29 true t22 (.int .i64 (.ofNat 0))) t22 (.int .i64 (.ofNat 0)) fun t23 =>
K.iteV t23 (
K.unmarkK [] h20 fun h24 => .ok t22 h24) (
K.letK (fun (l25 : List AV) (m26 : List Nat) (h27 : H) => K.uncons l25 fun t29 l30 => K.uncons l30 fun t31 l32 => K.uncons l32 fun t33 l34 => K.uncons l34 fun t35 l36 => K.unnil l36 (
K.callFK run 156 [t29, (.int .u8 (.ofNat 1)), (.int .u8 (.ofNat 2)), t35] h27 fun t37 h38 =>
K.callFK run 158 [t33] h38 fun t39 h40 =>
K.callFK run 157 [t29, (.int .u8 (.ofNat 3)), t39] h40 fun t41 h42 =>
K.callFK run 160 [t31] h42 fun t43 h44 =>
K.callFK run 159 [t29, t43] h44 fun t45 h46 =>
K.unmarkK m26 h46 fun h47 => .ok (.int .i64 (.ofNat 0)) h47)) fun j28 =>
K.lenVK t21 fun t48 =>
K.loopV (nat_lit 1000000) (fun s52 l49 m50 h51 => K.uncons l49 fun t53 l54 => K.uncons l54 fun t55 l56 => K.uncons l56 fun t57 l58 => K.uncons l58 fun t59 l60 => K.uncons l60 fun t61 l62 => K.uncons l62 fun t63 l64 => K.uncons l64 fun t65 l66 => K.unnil l66 (
K.ltK (K.binV ctx .lss 3 false t65 t63) t65 t63 fun t67 =>
K.iteV t67 (
K.idxSK 1 t61 t65 fun t68 =>
K.ldK ctx 23 t68 h51 fun t69 =>
K.nilK t53 fun t70 =>
K.fldK 4 t70 fun t71 =>
K.ldK ctx 3 t71 h51 fun t72 =>
K.addK (K.binV ctx .add 3 true t72 (.int .i64 (.ofNat 8))) t72 (.int .i64 (.ofNat 8)) fun t73 =>
K.addK (K.binV ctx .add 3 false t73 t65) t73 t65 fun t74 =>
K.bldSK ctx 252 [(0, t74), (1, t69)] fun t75 =>
K.bslK ctx 252 2 1 [(0, t75)] h51 fun t76 h77 =>
K.appK ctx 252 2 t59 t76 h77 fun t78 h79 =>
K.addK (K.binV ctx .add 3 true t65 (.int .i64 (.ofNat 1))) t65 (.int .i64 (.ofNat 1)) fun t80 =>
s52 [t53, t55, t57, t78, t61, t63, t80] m50 h79) (
j28 [t53, t55, t57, t59] m50 h51))) [t0, t2, t21, .nilSlice, t21, t48, (.int .i64 (.ofNat 0))] [] h20)))))
noncomputable def r127 : K.KRun → List AV → H → K.KR := fun run args h => K.uncons args fun t0 l1 => K.unnil l1 (
K.nilK t0 fun t2 =>
K.fldK 3 t2 fun t3 =>
K.ldK ctx 128 t3 h fun t4 =>
K.callFK run 139 [t4] h fun t5 h6 =>
K.gtK (K.binV ctx .gtr 3 true t5 (.int .i64 (.ofNat 0))) t5 (.int .i64 (.ofNat 0)) fun t7 =>
K.iteV t7 (
K.nilK t0 fun t8 =>
K.fldK 3 t8 fun t9 =>
K.ldK ctx 128 t9 h6 fun t10 =>
K.callFK run 138 [t10] h6 fun t11 h12 =>
K.extK t11 0 fun t13 =>
K.extK t11 1 fun t14 =>
K.addK (K.binV ctx .add 34 true (.int .u8 (.ofNat 3)) t13) (.int .u8 (.ofNat 3)) t13 fun t15 =>
K.unmarkK [] h12 fun h16 => .ok t15 h16) (
K.nilK t0 fun t17 =>
K.fldK 1 t17 fun t18 =>
K.ldK ctx 74 t18 h6 fun t19 =>
K.nilK t0 fun t20 =>
K.fldK 2 t20 fun t21 =>
K.ldK ctx 3 t21 h6 fun t22 =>
K.callFK run 161 [t19, t22] h6 fun t23 h24 =>
K.nilK t0 fun t25 =>
K.fldK 16 t25 fun t26 =>
K.stK t26 .nilFunc h24 fun h27 =>
K.nilK t0 fun t28 =>
K.fldK 24 t28 fun t29 =>
K.stK t29 (.bool true) h27 fun h30 =>
K.unmarkK [] h30 fun h31 => .ok (.int .u8 (.ofNat 10)) h31))
noncomputable def r128 : K.KRun → List AV → H → K.KR := fun run args h => K.uncons args fun t0 l1 => K.uncons l1 fun t2 l3 => K.unnil l3 (
K.letK (fun (l4 : List AV) (m5 : List Nat) (h6 : H) => K.unnil l4 (
K.unmarkK m5 h6 fun h8 => .ok (.int .i64 (.negSucc 0)) h8)) fun j7 =>
K.lenVK t0 fun t9 =>
K.loopV (nat_lit 1000000) (fun s13 l10 m11 h12 => K.uncons l10 fun t14 l15 => K.uncons l15 fun t16 l17 => K.uncons l17 fun t18 l19 => K.uncons l19 fun t20 l21 => K.unnil l21 (
K.ltK (K.binV ctx .lss 3 false t20 t18) t20 t18 fun t22 =>
K.iteV t22 (
K.idxSK 1 t14 t20 fun t23 =>
K.ldK ctx 3 t23 h12 fun t24 =>
K.eqK (K.binV ctx .eql 3 false t16 t24) t16 t24 fun t25 =>
K.iteV t25 (
K.unmarkK m11 h12 fun h26 => .ok t20 h26) (
K.addK (K.binV ctx .add 3 true t20 (.int .i64 (.ofNat 1))) t20 (.int .i64 (.ofNat 1)) fun t27 =>
s13 [t14, t16, t18, t27] m11 h12)) (
j7 [] m11 h12))) [t0, t2, t9, (.int .i64 (.ofNat 0))] [] h)
noncomputable def r129 : K.KRun → List AV → H → K.KR := fun run args h => K.uncons args fun t0 l1 => K.uncons l1 fun t2 l3 => K.unnil l3 (
K.eqK (K.binV ctx .eql 74 true t0 .nilPtr) t0 .nilPtr fun t4 =>
K.letK (fun (t5 : AV) (h6 : H) => K.letK (fun (t8 : AV) (h9 : H) => K.pickK t4 (.bool true) t8 fun t11 =>
K.letK (fun (t12 : AV) (h13 : H) => K.letK (fun (t15 : AV) (h16 : H) => K.pickK t11 (.bool true) t15 fun t18 =>
K.iteV t18 (
K.unmarkK [] h16 fun h19 => .ok .nilPtr h19) (
K.nilK t0 fun t20 =>
K.fldK 1 t20 fun t21 =>
K.idxAK 70 2 t21 t2 fun t22 =>
K.unmarkK [] h16 fun h23 => .ok t22 h23)) fun j17 =>
K.guK false t11 (K.geK (K.binV ctx .geq 3 true t12 (.int .i64 (.ofNat 70))) t12 (.int .i64 (.ofNat 70)) fun t24 =>
j17 t24 h13) (j17 (.tup []) h13)) fun j14 =>
K.guK false t11 (j14 t2 h9) (j14 (.tup []) h9)) fun j10 =>
K.guK false t4 (K.ltK (K.binV ctx .lss 3 true t5 (.int .i64 (.ofNat 0))) t5 (.int .i64 (.ofNat 0)) fun t25 =>
j10 t25 h6) (j10 (.tup []) h6)) fun j7 =>
K.guK false t4 (j7 t2 h) (j7 (.tup []) h))
noncomputable def r130 : K.KRun → List AV → H → K.KR := fun run args h => K.uncons args fun t0 l1 => K.unnil l1 (
K.eqK (K.binV ctx .eql 85 true t0 .nilSlice) t0 .nilSlice fun t2 =>
K.iteV t2 (
K.unmarkK [] h fun h3 => .ok .nilSlice h3) (
K.bslK ctx 3 1 0 [] h fun t4 h5 =>
K.appK ctx 3 1 t4 t0 h5 fun t6 h7 =>
K.unmarkK [] h7 fun h8 => .ok t6 h8))
noncomputable def r131 : K.KRun → List AV → H → K.KR := fun run args h => K.uncons args fun t0 l1 => K.uncons l1 fun t2 l3 => K.unnil l3 (
K.callFK run 162 [t2] h fun t4 h5 =>
K.eqK (K.binV ctx .eql 97 true t0 .nilPtr) t0 .nilPtr fun t6 =>
K.iteV t6 (
K.unmarkK [] h5 fun h7 => .ok (.tup [(.int .i64 (.ofNat 0)), (.int .i64 (.ofNat 2))]) h7) (
K.ltK (K.binV ctx .lss 3 true t4 (.int .i64 (.ofNat 0))) t4 (.int .i64 (.ofNat 0)) fun t8 =>
K.iteV t8 (
K.unmarkK [] h5 fun h9 => .ok (.tup [(.int .i64 (.ofNat 0)), (.int .i64 (.ofNat 1))]) h9) (
K.callFK run 163 [t0] h5 fun t10 h11 =>
K.addK (K.binV ctx .add 3 true t4 (.int .i64 (.ofNat 64))) t4 (.int .i64 (.ofNat 64)) fun t12 =>
K.ltK (K.binV ctx .lss 3 false t10 t12) t10 t12 fun t13 =>
K.iteV t13 (
K.unmarkK [] h11 fun h14 => .ok (.tup [(.int .i64 (.ofNat 0)), (.int .i64 (.ofNat 8))]) h14) (
K.unmarkK [] h11 fun h15 => .ok (.tup [t4, (.int .i64 (.ofNat 0))]) h15))))
noncomputable def r132 : K.KRun → List AV → H → K.KR := fun run args h => K.uncons args fun t0 l1 => K.uncons l1 fun t2 l3 => K.unnil l3 (
K.callFK run 164 [t0, t2, (.int .i64 (.ofNat 4)), (.int .i64 (.ofNat 8)), (.int .i64 (.ofNat 12))] h fun t4 h5 =>
K.unmarkK [] h5 fun h6 => .ok t4 h6)
noncomputable def r133 : K.KRun → List AV → H → K.KR := fun run args h => K.uncons args fun t0 l1 => K.uncons l1 fun t2 l3 => K.unnil l3 (
K.geK (K.binV ctx .geq 3 true t2 (.int .i64 (.ofNat 0))) t2 (.int .i64 (.ofNat 0)) fun t4 =>
K.letK (fun (t5 : AV) (h6 : H) => K.letK (fun (t8 : AV) (h9 : H) => K.letK (fun (t11 : AV) (h12 : H) => K.letK (fun (t14 : AV) (h15 : H) => K.pickK t4 t14 (.bool false) fun t17 =>
K.unmarkK [] h15 fun h18 => .ok t17 h18) fun j16 =>
K.guK true t4 (K.ltK (K.binV ctx .lss 3 false t5 t11) t5 t11 fun t19 =>
j16 t19 h12) (j16 (.tup []) h12)) fun j13 =>
K.guK true t4 (K.callFK run 163 [t8] h9 fun t20 h21 =>
j13 t20 h21) (j13 (.tup []) h9)) fun j10 =>
K.guK true t4 (j10 t0 h6) (j10 (.tup []) h6)) fun j7 =>
K.guK true t4 (j7 t2 h) (j7 (.tup []) h))
noncomputable def r134 : K.KRun → List AV → H → K.KR := fun run args h => K.uncons args fun t0 l1 => K.uncons l1 fun t2 l3 => K.unnil l3 (
K.ldK ctx 99 t2 h fun t4 =>
K.lenVK t4 fun t5 =>
K.loopV (nat_lit 1000000) (fun s9 l6 m7 h8 => K.uncons l6 fun t10 l11 => K.uncons l11 fun t12 l13 => K.uncons l13 fun t14 l15 => K.uncons l15 fun t16 l17 => K.unnil l17 (
K.ltK (K.binV ctx .lss 3 false t16 t14) t16 t14 fun t18 =>
K.iteV t18 (
K.ldK ctx 99 t12 h8 fun t19 =>
K.idxSK 6 t19 t16 fun t20 =>
K.fldK 2 t20 fun t21 =>
K.fldK 0 t21 fun t22 =>
K.ldK ctx 4 t22 h8 fun t23 =>
K.letK (fun (t24 : AV) (h25 : H) => K.letK (fun (t27 : AV) (h28 : H) => K.letK (fun (t30 : AV) (h31 : H) => K.letK (fun (t33 : AV) (h34 : H) => K.letK (fun (t36 : AV) (h37 : H) => K.letK (fun (t39 : AV) (h40 : H) => K.pickK t23 t39 (.bool false) fun t42 =>
K.iteV t42 (
K.unmarkK m7 h40 fun h43 => .ok (.tup []) h43) (
K.addK (K.binV ctx .add 3 true t16 (.int .i64 (.ofNat 1))) t16 (.int .i64 (.ofNat 1)) fun t44 =>
s9 [t10, t12, t14, t44] m7 h40)) fun j41 =>
K.guK true t23 (K.notK t36 fun t45 =>
j41 t45 h37) (j41 (.tup []) h37)) fun j38 =>
K.guK true t23 (K.callVK run t24 [t33] h34 fun t46 h47 =>
j38 t46 h47) (j38 (.tup []) h34)) fun j35 =>
K.guK true t23 (K.idxSK 6 t27 t30 fun t48 =>
j35 t48 h31) (j35 (.tup []) h31)) fun j32 =>
K.guK true t23 (j32 t16 h28) (j32 (.tup []) h28)) fun j29 =>
K.guK true t23 (K.ldK ctx 99 t12 h25 fun t49 =>
j29 t49 h25) (j29 (.tup []) h25)) fun j26 =>
K.guK true t23 (j26 t10 h8) (j26 (.tup []) h8)) (
K.unmarkK m7 h8 fun h50 => .ok (.tup []) h50))) [t0, t2, t5, (.int .i64 (.ofNat 0))] [] h)
noncomputable def r136 : K.KRun → List AV → H → K.KR := fun run args h => K.uncons args fun t0 l1 => K.uncons l1 fun t2 l3 => K.unnil l3 (
K.letK (fun (l4 : List AV) (m5 : List Nat) (h6 : H) => K.uncons l4 fun t8 l9 => K.unnil l9 (
K.nilK t8 fun t10 =>
K.fldK 5 t10 fun t11 =>
K.stK t11 .nilPtr h6 fun h12 =>
K.unmarkK m5 h12 fun h13 => .ok (.tup []) h13)) fun j7 =>
K.nilK t0 fun t14 =>
K.fldK 4 t14 fun t15 =>
K.stK t15 t2 h fun h16 =>
K.loopV (nat_lit 1000000) (fun s20 l17 m18 h19 => K.uncons l17 fun t21 l22 => K.unnil l22 (
K.nilK t21 fun t23 =>
K.fldK 4 t23 fun t24 =>
K.ldK ctx 3 t24 h19 fun t25 =>
K.nilK t21 fun t26 =>
K.fldK 1 t26 fun t27 =>
K.fldK 0 t27 fun t28 =>
K.ldK ctx 3 t28 h19 fun t29 =>
K.ltK (K.binV ctx .lss 3 false t25 t29) t25 t29 fun t30 =>
K.iteV t30 (
K.letK (fun (l31 : List AV) (m32 : List Nat) (h33 : H) => K.uncons l31 fun t35 l36 => K.unnil l36 (
K.nilK t35 fun t37 =>
K.fldK 4 t37 fun t38 =>
K.ldK ctx 3 t38 h33 fun t39 =>
K.addK (K.binV ctx .add 3 true t39 (.int .i64 (.ofNat 1))) t39 (.int .i64 (.ofNat 1)) fun t40 =>
K.nilK t35 fun t41 =>
K.fldK 4 t41 fun t42 =>
K.stK t42 t40 h33 fun h43 =>
s20 [t35] m32 h43)) fun j34 =>
K.nilK t21 fun t44 =>
K.fldK 0 t44 fun t45 =>
K.ldK ctx 46 t45 h19 fun t46 =>
K.nilK t21 fun t47 =>
K.fldK 1 t47 fun t48 =>
K.ldsK ctx 53 3 t48 h19 fun t49 =>
K.nilK t21 fun t50 =>
K.fldK 4 t50 fun t51 =>
K.ldK ctx 3 t51 h19 fun t52 =>
K.callFK run 54 [t46, t49, t52] h19 fun t53 h54 =>
K.extK t53 0 fun t55 =>
K.extK t53 1 fun t56 =>
K.neK (K.binV ctx .neq 29 true t56 (.int .i64 (.ofNat 0))) t56 (.int .i64 (.ofNat 0)) fun t57 =>
K.iteV t57 (
j34 [t21] m18 h54) (
K.callFK run 165 [t55] h54 fun t58 h59 =>
K.extK t58 0 fun t60 =>
K.extK t58 1 fun t61 =>
K.notK t60 fun t62 =>
K.letK (fun (t63 : AV) (h64 : H) => K.letK (fun (t66 : AV) (h67 : H) => K.pickK t62 (.bool true) t66 fun t69 =>
K.iteV t69 (
j34 [t21] m18 h67) (
K.nilK t21 fun t70 =>
K.fldK 5 t70 fun t71 =>
K.stK t71 t55 h67 fun h72 =>
K.unmarkK m18 h72 fun h73 => .ok (.tup []) h73)) fun j68 =>
K.guK false t62 (K.neK (K.binV ctx .neq 29 true t63 (.int .i64 (.ofNat 0))) t63 (.int .i64 (.ofNat 0)) fun t74 =>
j68 t74 h64) (j68 (.tup []) h64)) fun j65 =>
K.guK false t62 (j65 t61 h59) (j65 (.tup []) h59))) (
j7 [t21] m18 h19))) [t0] [] h16)
noncomputable def r137 : K.KRun → List AV → H → K.KR := fun run args h => K.uncons args fun t0 l1 => K.unnil l1 (
K.eqK (K.binV ctx .eql 109 true t0 .nilPtr) t0 .nilPtr fun t2 =>
K.letK (fun (t3 : AV) (h4 : H) => K.letK (fun (t6 : AV) (h7 : H) => K.letK (fun (t9 : AV) (h10 : H) => K.letK (fun (t12 : AV) (h13 : H) => K.letK (fun (t15 : AV) (h16 : H) => K.pickK t2 (.bool true) t15 fun t18 =>
K.iteV t18 (
K.unmarkK [] h16 fun h19 => .ok (.int .i64 (.ofNat 0)) h19) (
K.nilK t0 fun t20 =>
K.fldK 5 t20 fun t21 =>
K.ldK ctx 128 t21 h16 fun t22 =>
K.callFK run 139 [t22] h16 fun t23 h24 =>
K.unmarkK [] h24 fun h25 => .ok t23 h25)) fun j17 =>
K.guK false t2 (K.eqK (K.binV ctx .eql 128 true t12 .nilPtr) t12 .nilPtr fun t26 =>
j17 t26 h13) (j17 (.tup []) h13)) fun j14 =>
K.guK false t2 (K.ldK ctx 128 t9 h10 fun t27 =>
j14 t27 h10) (j14 (.tup []) h10)) fun j11 =>
K.guK false t2 (K.fldK 5 t6 fun t28 =>
j11 t28 h7) (j11 (.tup []) h7)) fun j8 =>
K.guK false t2 (K.nilK t3 fun t29 =>
j8 t29 h4) (j8 (.tup []) h4)) fun j5 =>
K.guK false t2 (j5 t0 h) (j5 (.tup []) h))
noncomputable def r138 : K.KRun → List AV → H → K.KR := fun run args h => K.uncons args fun t0 l1 => K.unnil l1 (
K.eqK (K.binV ctx .eql 128 true t0 .nilPtr) t0 .nilPtr fun t2 =>
K.iteV t2 (
K.unmarkK [] h fun h3 => .ok (.tup [(.int .u8 (.ofNat 0)), (.int .i64 (.ofNat 2))]) h3) (
K.nilK t0 fun t4 =>
K.fldK 5 t4 fun t5 =>
K.ldK ctx 171 t5 h fun t6 =>
K.lenVK t6 fun t7 =>
K.eqK (K.binV ctx .eql 3 true t7 (.int .i64 (.ofNat 0))) t7 (.int .i64 (.ofNat 0)) fun t8 =>
K.iteV t8 (
K.unmarkK [] h fun h9 => .ok (.tup [(.int .u8 (.ofNat 0)), (.int .i64 (.ofNat 3))]) h9) (
K.nilK t0 fun t10 =>
K.fldK 5 t10 fun t11 =>
K.ldK ctx 171 t11 h fun t12 =>
K.idxSK 2 t12 (.int .i64 (.ofNat 0)) fun t13 =>
K.ldsK ctx 261 2 t13 h fun t14 =>
K.allocK (K.zN ctx 261) (K.zT ctx 261) h fun t15 h16 =>
K.stsK 2 t15 t14 h16 fun h17 =>
K.nilK t0 fun t18 =>
K.fldK 5 t18 fun t19 =>
K.ldK ctx 171 t19 h17 fun t20 =>
K.slcK ctx 171 t20 (some (.int .i64 (.ofNat 1))) none none h17 fun t21 =>
K.nilK t0 fun t22 =>
K.fldK 5 t22 fun t23 =>
K.stK t23 t21 h17 fun h24 =>
K.fldK 0 t15 fun t25 =>
K.ldK ctx 201 t25 h24 fun t26 =>
K.fldK 1 t15 fun t27 =>
K.ldK ctx 170 t27 h24 fun t28 =>
K.callVK run t28 [] h24 fun t29 h30 =>
K.ldK ctx 201 t25 h30 fun t31 =>
K.req (AV.same t26 t31) (
K.unmarkK [] h30 fun h32 => .ok (.tup [t26, t29]) h32))))
noncomputable def r139 : K.KRun → List AV → H → K.KR := fun run args h => K.uncons args fun t0 l1 => K.unnil l1 (
K.eqK (K.binV ctx .eql 128 true t0 .nilPtr) t0 .nilPtr fun t2 =>
K.iteV t2 (
K.unmarkK [] h fun h3 => .ok (.int .i64 (.ofNat 0)) h3) (
K.nilK t0 fun t4 =>
K.fldK 5 t4 fun t5 =>
K.ldK ctx 171 t5 h fun t6 =>
K.lenVK t6 fun t7 =>
K.unmarkK [] h fun h8 => .ok t7 h8))
noncomputable def r144 : K.KRun → List AV → H → K.KR := fun run args h => K.uncons args fun t0 l1 => K.uncons l1 fun t2 l3 => K.unnil l3 (
K.boxK t0 h fun t4 h5 =>
K.letK (fun (l6 : List AV) (m7 : List Nat) (h8 : H) => K.uncons l6 fun t10 l11 => K.unnil l11 (
K.ldK ctx 85 t10 h8 fun t12 =>
K.unmarkK m7 h8 fun h13 => .ok t12 h13)) fun j9 =>
K.hNew h5 .marks fun r14 h15 => K.hNew h15 (.loop .ready none (K.mkT [2, 6] [t4, t2]) 5 r14) fun n16 h17 =>
K.rngK ctx run t2 n16 h17 (fun h19 => j9 [t4] (r14 :: []) h19) (fun h20 => K.unmarkK (r14 :: []) h20 fun h23 => .bad) fun i18 h21 => (Bool.rec (motive := fun _ => K.KR) (.bad) (j9 [t4] (r14 :: []) h21) (Nat.beq i18 0)))
end YtjhcfoinldcaoaaGreatDoorWdM
