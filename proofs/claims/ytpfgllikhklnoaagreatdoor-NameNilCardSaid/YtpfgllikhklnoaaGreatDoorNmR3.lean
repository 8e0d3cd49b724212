/- PRINTED BY Gen2.lean (own): functions as plain texts, part 3. -/
import Derived.Test.YtpfgllikhklnoaaGreatDoorNmCtx
namespace YtpfgllikhklnoaaGreatDoorNmM
open Go Am
set_option maxRecDepth 100000
noncomputable def r138 : K.KRun → List AV → H → K.KR := fun run args h => K.uncons args fun t0 l1 => K.uncons l1 fun t2 l3 => K.unnil l3 (
K.letK (fun (l4 : List AV) (m5 : List Nat) (h6 : H) => K.unnil l4 (
K.unmarkK m5 h6 fun h8 => .ok (.bool true) h8)) fun j7 =>
K.loopV (nat_lit 1000000) (fun s12 l9 m10 h11 => K.uncons l9 fun t13 l14 => K.uncons l14 fun t15 l16 => K.uncons l16 fun t17 l18 => K.unnil l18 (
K.ltK (K.binV ctx .lss 3 true t17 (.int .i64 (.ofNat 8))) t17 (.int .i64 (.ofNat 8)) fun t19 =>
K.iteV t19 (
K.nilK t13 fun t20 =>
K.fldK 0 t20 fun t21 =>
K.ldK ctx 29 t21 h11 fun t22 =>
K.nilK t13 fun t23 =>
K.fldK 1 t23 fun t24 =>
K.ldsK ctx 23 3 t24 h11 fun t25 =>
K.callFK run 128 [t25, t15] h11 fun t26 h27 =>
K.ldK ctx 29 t21 h27 fun t28 =>
K.req (AV.same t22 t28) (
K.addK (K.binV ctx .add 3 false t26 t17) t26 t17 fun t29 =>
K.callFK run 72 [t22, t29] h27 fun t30 h31 =>
K.neK (K.binV ctx .neq 27 true t30 (.int .u64 (.ofNat 0))) t30 (.int .u64 (.ofNat 0)) fun t32 =>
K.iteV t32 (
K.unmarkK m10 h31 fun h33 => .ok (.bool false) h33) (
K.addK (K.binV ctx .add 3 true t17 (.int .i64 (.ofNat 1))) t17 (.int .i64 (.ofNat 1)) fun t34 =>
s12 [t13, t15, t34] m10 h31))) (
j7 [] m10 h11))) [t0, t2, (.int .i64 (.ofNat 0))] [] h)
noncomputable def r139 : K.KRun → List AV → H → K.KR := fun run args h => K.uncons args fun t0 l1 => K.uncons l1 fun t2 l3 => K.unnil l3 (
K.nilK t0 fun t4 =>
K.fldK 1 t4 fun t5 =>
K.ldsK ctx 23 3 t5 h fun t6 =>
K.nilK t0 fun t7 =>
K.fldK 4 t7 fun t8 =>
K.ldK ctx 3 t8 h fun t9 =>
K.callFK run 44 [t6, t9] h fun t10 h11 =>
K.addK (K.binV ctx .add 3 false t10 t2) t10 t2 fun t12 =>
K.unmarkK [] h11 fun h13 => .ok t12 h13)
noncomputable def r140 : K.KRun → List AV → H → K.KR := fun run args h => K.uncons args fun t0 l1 => K.uncons l1 fun t2 l3 => K.unnil l3 (
K.callFK run 143 [t0, t2] h fun t4 h5 =>
K.notK t4 fun t6 =>
K.iteV t6 (
K.unmarkK [] h5 fun h7 => .ok (.bool false) h7) (
K.callFK run 144 [t0, t2] h5 fun t8 h9 =>
K.extK t8 0 fun t10 =>
K.extK t8 1 fun t11 =>
K.nilK t0 fun t12 =>
K.fldK 0 t12 fun t13 =>
K.ldK ctx 29 t13 h9 fun t14 =>
K.callFK run 72 [t14, t10] h9 fun t15 h16 =>
K.oK (K.binV ctx .and 27 false t15 t11) fun t17 =>
K.neK (K.binV ctx .neq 27 true t17 (.int .u64 (.ofNat 0))) t17 (.int .u64 (.ofNat 0)) fun t18 =>
K.unmarkK [] h16 fun h19 => .ok t18 h19))
noncomputable def r141 : K.KRun → List AV → H → K.KR := fun run args h => K.uncons args fun t0 l1 => K.unnil l1 (
K.boxK t0 h fun t2 h3 =>
K.unmarkK [] h3 fun h4 => .ok (.func (.func 158) [] [t2]) h4)
noncomputable def r142 : K.KRun → List AV → H → K.KR := fun run args h => K.uncons args fun t0 l1 => K.unnil l1 (
K.eqK (K.binV ctx .eql 27 true t0 (.int .u64 (.ofNat 0))) t0 (.int .u64 (.ofNat 0)) fun t2 =>
K.iteV t2 (
K.unmarkK [] h fun h3 => .ok (.int .i64 (.ofNat 64)) h3) (
K.oK (unA .neg t0) fun t4 =>
K.oK (K.binV ctx .and 27 false t0 t4) fun t5 =>
K.mulK (K.binV ctx .mul 27 true t5 (.int .u64 (.ofNat 285870213051353865))) t5 (.int .u64 (.ofNat 285870213051353865)) fun t6 =>
K.oK (K.binV ctx .shr 27 true t6 (.int .u64 (.ofNat 58))) fun t7 =>
K.idxAK 64 1 (.gptr 1 0) t7 fun t8 =>
K.ldK ctx 5 t8 h fun t9 =>
K.rK (convA ctx 5 3 t9 h) fun t10 h11 =>
K.unmarkK [] h11 fun h12 => .ok t10 h12))
noncomputable def r143 : K.KRun → List AV → H → K.KR := fun run args h => K.uncons args fun t0 l1 => K.uncons l1 fun t2 l3 => K.unnil l3 (
K.neK (K.binV ctx .neq 108 true t0 .nilPtr) t0 .nilPtr fun t4 =>
K.letK (fun (t5 : AV) (h6 : H) => K.letK (fun (t8 : AV) (h9 : H) => K.pickK t4 t8 (.bool false) fun t11 =>
K.letK (fun (t12 : AV) (h13 : H) => K.letK (fun (t15 : AV) (h16 : H) => K.letK (fun (t18 : AV) (h19 : H) => K.letK (fun (t21 : AV) (h22 : H) => K.letK (fun (t24 : AV) (h25 : H) => K.letK (fun (t27 : AV) (h28 : H) => K.pickK t11 t27 (.bool false) fun t30 =>
K.unmarkK [] h28 fun h31 => .ok t30 h31) fun j29 =>
K.guK true t11 (K.ltK (K.binV ctx .lss 3 false t12 t24) t12 t24 fun t32 =>
j29 t32 h25) (j29 (.tup []) h25)) fun j26 =>
K.guK true t11 (K.ldK ctx 3 t21 h22 fun t33 =>
j26 t33 h22) (j26 (.tup []) h22)) fun j23 =>
K.guK true t11 (K.fldK 2 t18 fun t34 =>
j23 t34 h19) (j23 (.tup []) h19)) fun j20 =>
K.guK true t11 (K.nilK t15 fun t35 =>
j20 t35 h16) (j20 (.tup []) h16)) fun j17 =>
K.guK true t11 (j17 t0 h13) (j17 (.tup []) h13)) fun j14 =>
K.guK true t11 (j14 t2 h9) (j14 (.tup []) h9)) fun j10 =>
K.guK true t4 (K.geK (K.binV ctx .geq 3 true t5 (.int .i64 (.ofNat 0))) t5 (.int .i64 (.ofNat 0)) fun t36 =>
j10 t36 h6) (j10 (.tup []) h6)) fun j7 =>
K.guK true t4 (j7 t2 h) (j7 (.tup []) h))
noncomputable def r144 : K.KRun → List AV → H → K.KR := fun run args h => K.uncons args fun t0 l1 => K.uncons l1 fun t2 l3 => K.unnil l3 (
K.nilK t0 fun t4 =>
K.fldK 1 t4 fun t5 =>
K.ldK ctx 3 t5 h fun t6 =>
K.oK (K.binV ctx .quo 3 true t2 (.int .i64 (.ofNat 64))) fun t7 =>
K.addK (K.binV ctx .add 3 false t6 t7) t6 t7 fun t8 =>
K.oK (K.binV ctx .rem 3 true t2 (.int .i64 (.ofNat 64))) fun t9 =>
K.oK (K.binV ctx .shl 27 true (.int .u64 (.ofNat 1)) t9) fun t10 =>
K.unmarkK [] h fun h11 => .ok (.tup [t8, t10]) h11)
noncomputable def r145 : K.KRun → List AV → H → K.KR := fun run args h => K.uncons args fun t0 l1 => K.uncons l1 fun t2 l3 => K.unnil l3 (
K.callFK run 159 [t0, t2] h fun t4 h5 =>
K.geK (K.binV ctx .geq 3 true t4 (.int .i64 (.ofNat 0))) t4 (.int .i64 (.ofNat 0)) fun t6 =>
K.unmarkK [] h5 fun h7 => .ok t6 h7)
noncomputable def r146 : K.KRun → List AV → H → K.KR := fun run args h => K.uncons args fun t0 l1 => K.unnil l1 (
K.callFK run 160 [] h fun t2 h3 =>
K.allocK (K.zN ctx 205) (K.zT ctx 205) h3 fun t4 h5 =>
K.stK t4 (.func (.func 161) [t2] []) h5 fun h6 =>
K.letK (fun (l7 : List AV) (m8 : List Nat) (h9 : H) => K.uncons l7 fun t11 l12 => K.unnil l12 (
K.callFK run 163 [t11] h9 fun t13 h14 =>
K.unmarkK m8 h14 fun h15 => .ok t13 h15)) fun j10 =>
K.callFK run 162 [t0] h6 fun t16 h17 =>
K.hNew h17 .marks fun r18 h19 => K.hNew h19 (.loop .ready none (K.mkT [3, 4, 10] [t2, t4, t16]) 9 r18) fun n20 h21 =>
K.rngK ctx run t16 n20 h21 (fun h23 => j10 [t2] (r18 :: []) h23) (fun h24 => K.unmarkK (r18 :: []) h24 fun h27 => .bad) fun i22 h25 => (Bool.rec (motive := fun _ => K.KR) (.bad) (j10 [t2] (r18 :: []) h25) (Nat.beq i22 0)))
noncomputable def r147 : K.KRun → List AV → H → K.KR := fun run args h => K.uncons args fun t0 l1 => K.unnil l1 (
K.eqK (K.binV ctx .eql 52 true t0 .nilPtr) t0 .nilPtr fun t2 =>
K.iteV t2 (
K.unmarkK [] h fun h3 => .ok (.tup [(.int .i64 (.ofNat 0)), (.int .i64 (.ofNat 0))]) h3) (
K.nilK t0 fun t4 =>
K.fldK 4 t4 fun t5 =>
K.ldsK ctx 112 2 t5 h fun t6 =>
K.nilK t0 fun t7 =>
K.fldK 6 t7 fun t8 =>
K.ldsK ctx 112 2 t8 h fun t9 =>
K.callFK run 164 [t6] h fun t10 h11 =>
K.ldsK ctx 112 2 t8 h11 fun t12 =>
K.req (AV.same t9 t12) (
K.callFK run 164 [t9] h11 fun t13 h14 =>
K.unmarkK [] h14 fun h15 => .ok (.tup [t10, t13]) h15)))
noncomputable def r148 : K.KRun → List AV → H → K.KR := fun run args h => K.uncons args fun t0 l1 => K.uncons l1 fun t2 l3 => K.unnil l3 (
K.callFK run 125 [t0, t2] h fun t4 h5 =>
K.extK t4 0 fun t6 =>
K.extK t4 1 fun t7 =>
K.neK (K.binV ctx .neq 24 true t7 (.int .i64 (.ofNat 0))) t7 (.int .i64 (.ofNat 0)) fun t8 =>
K.letK (fun (t9 : AV) (h10 : H) => K.letK (fun (t12 : AV) (h13 : H) => K.pickK t8 (.bool true) t12 fun t15 =>
K.iteV t15 (
K.unmarkK [] h13 fun h16 => .ok (.int .i64 (.ofNat 0)) h16) (
K.callFK run 135 [t0, t2] h13 fun t17 h18 =>
K.extK t17 0 fun t19 =>
K.extK t17 1 fun t20 =>
K.notK t20 fun t21 =>
K.iteV t21 (
K.unmarkK [] h18 fun h22 => .ok (.int .i64 (.ofNat 2)) h22) (
K.unmarkK [] h18 fun h23 => .ok (.int .i64 (.ofNat 1)) h23))) fun j14 =>
K.guK false t8 (K.neK (K.binV ctx .neq 3 true t9 (.int .i64 (.ofNat 0))) t9 (.int .i64 (.ofNat 0)) fun t24 =>
j14 t24 h10) (j14 (.tup []) h10)) fun j11 =>
K.guK false t8 (j11 t6 h5) (j11 (.tup []) h5))
noncomputable def r149 : K.KRun → List AV → H → K.KR := fun run args h => K.uncons args fun t0 l1 => K.uncons l1 fun t2 l3 => K.unnil l3 (
K.nilK t0 fun t4 =>
K.fldK 0 t4 fun t5 =>
K.ldK ctx 29 t5 h fun t6 =>
K.nilK t0 fun t7 =>
K.fldK 1 t7 fun t8 =>
K.ldsK ctx 23 3 t8 h fun t9 =>
K.callFK run 26 [t6, t9] h fun t10 h11 =>
K.extK t10 0 fun t12 =>
K.extK t10 1 fun t13 =>
K.neK (K.binV ctx .neq 24 true t13 (.int .i64 (.ofNat 0))) t13 (.int .i64 (.ofNat 0)) fun t14 =>
K.iteV t14 (
K.unmarkK [] h11 fun h15 => .ok (.tup [(.int .i64 (.ofNat 0)), t13]) h15) (
K.callFK run 165 [t12] h11 fun t16 h17 =>
K.extK t16 0 fun t18 =>
K.extK t16 1 fun t19 =>
K.letK (fun (l20 : List AV) (m21 : List Nat) (h22 : H) => K.uncons l20 fun t24 l25 => K.uncons l25 fun t26 l27 => K.uncons l27 fun t28 l29 => K.uncons l29 fun t30 l31 => K.unnil l31 (
K.letK (fun (l32 : List AV) (m33 : List Nat) (h34 : H) => K.uncons l32 fun t36 l37 => K.uncons l37 fun t38 l39 => K.unnil l39 (
K.neK (K.binV ctx .neq 24 true t36 (.int .i64 (.ofNat 0))) t36 (.int .i64 (.ofNat 0)) fun t40 =>
K.iteV t40 (
K.unmarkK m33 h34 fun h41 => .ok (.tup [(.int .i64 (.ofNat 0)), t36]) h41) (
K.unmarkK m33 h34 fun h42 => .ok (.tup [t38, (.int .i64 (.ofNat 0))]) h42))) fun j35 =>
K.eqK (K.binV ctx .eql 24 true t28 (.int .i64 (.ofNat 0))) t28 (.int .i64 (.ofNat 0)) fun t43 =>
K.iteV t43 (
K.nilK t24 fun t44 =>
K.fldK 0 t44 fun t45 =>
K.ldK ctx 29 t45 h22 fun t46 =>
K.rK (convA ctx 3 27 t30 h22) fun t47 h48 =>
K.callFK run 43 [t46, t26, t47] h48 fun t49 h50 =>
j35 [t49, t30] m21 h50) (
j35 [t28, t30] m21 h22))) fun j23 =>
K.eqK (K.binV ctx .eql 24 true t19 (.int .i64 (.ofNat 0))) t19 (.int .i64 (.ofNat 0)) fun t51 =>
K.letK (fun (t52 : AV) (h53 : H) => K.letK (fun (t55 : AV) (h56 : H) => K.pickK t51 t55 (.bool false) fun t58 =>
K.iteV t58 (
j23 [t0, t2, (.int .i64 (.ofNat 4)), t18] [] h56) (
j23 [t0, t2, t19, t18] [] h56)) fun j57 =>
K.guK true t51 (K.eqK (K.binV ctx .eql 3 true t52 (.int .i64 (.ofNat 0))) t52 (.int .i64 (.ofNat 0)) fun t59 =>
j57 t59 h53) (j57 (.tup []) h53)) fun j54 =>
K.guK true t51 (j54 t18 h17) (j54 (.tup []) h17)))
noncomputable def r150 : K.KRun → List AV → H → K.KR := fun run args h => K.uncons args fun t0 l1 => K.uncons l1 fun t2 l3 => K.unnil l3 (
K.boxK t0 h fun t4 h5 =>
K.boxK t2 h5 fun t6 h7 =>
K.letK (fun (l8 : List AV) (m9 : List Nat) (h10 : H) => K.uncons l8 fun t12 l13 => K.uncons l13 fun t14 l15 => K.unnil l15 (
K.unmarkK m9 h10 fun h16 => .ok (.func (.func 166) [] [t12, t14]) h16)) fun j11 =>
K.ldK ctx 3 t6 h7 fun t17 =>
K.ltK (K.binV ctx .lss 3 true t17 (.int .i64 (.ofNat 1))) t17 (.int .i64 (.ofNat 1)) fun t18 =>
K.iteV t18 (
K.slowK ctx run (K.opAt Go.Proofs.Tryz.f150 2 1) [7] [(.iface 9 (.str [99, 97, 110, 110, 111, 116, 32, 98, 101, 32, 108, 101, 115, 115, 32, 116, 104, 97, 110, 32, 49]))] h7 fun t19 h20 =>
j11 [t4, t6] [] h20) (
j11 [t4, t6] [] h7))
noncomputable def r151 : K.KRun → List AV → H → K.KR := fun run args h => K.uncons args fun t0 l1 => K.unnil l1 (
K.boxK t0 h fun t2 h3 =>
K.unmarkK [] h3 fun h4 => .ok (.func (.func 167) [] [t2]) h4)
noncomputable def r152 : K.KRun → List AV → H → K.KR := fun run args h => K.uncons args fun t0 l1 => K.uncons l1 fun t2 l3 => K.unnil l3 (
K.lenTK t0 fun t4 =>
K.lenTK t2 fun t5 =>
K.geK (K.binV ctx .geq 3 false t4 t5) t4 t5 fun t6 =>
K.letK (fun (t7 : AV) (h8 : H) => K.letK (fun (t10 : AV) (h11 : H) => K.letK (fun (t13 : AV) (h14 : H) => K.letK (fun (t16 : AV) (h17 : H) => K.letK (fun (t19 : AV) (h20 : H) => K.letK (fun (t22 : AV) (h23 : H) => K.pickK t6 t22 (.bool false) fun t25 =>
K.unmarkK [] h23 fun h26 => .ok t25 h26) fun j24 =>
K.guK true t6 (K.eqK (K.binV ctx .eql 9 false t16 t19) t16 t19 fun t27 =>
j24 t27 h20) (j24 (.tup []) h20)) fun j21 =>
K.guK true t6 (j21 t2 h17) (j21 (.tup []) h17)) fun j18 =>
K.guK true t6 (K.slcK ctx 9 t7 none (some t13) none h14 fun t28 =>
j18 t28 h14) (j18 (.tup []) h14)) fun j15 =>
K.guK true t6 (K.lenTK t10 fun t29 =>
j15 t29 h11) (j15 (.tup []) h11)) fun j12 =>
K.guK true t6 (j12 t2 h8) (j12 (.tup []) h8)) fun j9 =>
K.guK true t6 (j9 t0 h) (j9 (.tup []) h))
noncomputable def r153 : K.KRun → List AV → H → K.KR := fun run args h => K.uncons args fun t0 l1 => K.uncons l1 fun t2 l3 => K.unnil l3 (
K.ldK ctx 9 t2 h fun t4 =>
K.loopV (nat_lit 1000000) (fun s8 l5 m6 h7 => K.uncons l5 fun t9 l10 => K.uncons l10 fun t11 l12 => K.uncons l12 fun t13 l14 => K.unnil l14 (
K.iteV t13 (
K.callFK run 154 [t11, (.str [47])] h7 fun t15 h16 =>
K.extK t15 0 fun t17 =>
K.extK t15 1 fun t18 =>
K.extK t15 2 fun t19 =>
K.callVK run t9 [t17] h16 fun t20 h21 =>
K.notK t20 fun t22 =>
K.iteV t22 (
K.unmarkK m6 h21 fun h23 => .ok (.tup []) h23) (
s8 [t9, t18, t19] m6 h21)) (
K.unmarkK m6 h7 fun h24 => .ok (.tup []) h24))) [t0, t4, (.bool true)] [] h)
noncomputable def r154 : K.KRun → List AV → H → K.KR := fun run args h => K.uncons args fun t0 l1 => K.uncons l1 fun t2 l3 => K.unnil l3 (
K.callFK run 168 [t0, t2] h fun t4 h5 =>
K.extK t4 0 fun t6 =>
K.extK t4 1 fun t7 =>
K.extK t4 2 fun t8 =>
K.unmarkK [] h5 fun h9 => .ok (.tup [t6, t7, t8]) h9)
noncomputable def r155 : K.KRun → List AV → H → K.KR := fun run args h => K.uncons args fun t0 l1 => K.uncons l1 fun t2 l3 => K.unnil l3 (
K.addK (K.binV ctx .add 3 true (.int .i64 (.ofNat 4)) t2) (.int .i64 (.ofNat 4)) t2 fun t4 =>
K.callFK run 139 [t0, t4] h fun t5 h6 =>
K.unmarkK [] h6 fun h7 => .ok (.tup [t5, (.bool true)]) h7)
noncomputable def r156 : K.KRun → List AV → H → K.KR := fun run args h => K.uncons args fun t0 l1 => K.uncons l1 fun t2 l3 => K.unnil l3 (
K.callFK run 137 [t0] h fun t4 h5 =>
K.nilK t0 fun t6 =>
K.fldK 1 t6 fun t7 =>
K.ldsK ctx 23 3 t7 h5 fun t8 =>
K.callFK run 128 [t8, t4] h5 fun t9 h10 =>
K.addK (K.binV ctx .add 3 false t9 t2) t9 t2 fun t11 =>
K.subK (K.binV ctx .sub 3 true t11 (.int .i64 (.ofNat 4))) t11 (.int .i64 (.ofNat 4)) fun t12 =>
K.neK (K.binV ctx .neq 3 true t4 (.int .i64 (.ofNat 0))) t4 (.int .i64 (.ofNat 0)) fun t13 =>
K.unmarkK [] h10 fun h14 => .ok (.tup [t12, t13]) h14)
noncomputable def r157 : K.KRun → List AV → H → K.KR := fun run args h => K.uncons args fun t0 l1 => K.uncons l1 fun t2 l3 => K.unnil l3 (
K.eqK (K.binV ctx .eql 52 true t0 .nilPtr) t0 .nilPtr fun t4 =>
K.iteV t4 (
K.unmarkK [] h fun h5 => .ok (.int .i64 (.ofNat 2)) h5) (
K.nilK t0 fun t6 =>
K.fldK 6 t6 fun t7 =>
K.ldsK ctx 112 2 t7 h fun t8 =>
K.callFK run 108 [t8, t2] h fun t9 h10 =>
K.unmarkK [] h10 fun h11 => .ok t9 h11))
noncomputable def r158 : K.KRun → List AV → H → K.KR := fun run args h => K.uncons args fun t0 l1 => K.uncons l1 fun t2 l3 => K.unnil l3 (
K.ldK ctx 108 t2 h fun t4 =>
K.eqK (K.binV ctx .eql 108 true t4 .nilPtr) t4 .nilPtr fun t5 =>
K.iteV t5 (
K.unmarkK [] h fun h6 => .ok (.tup []) h6) (
K.loopV (nat_lit 1000000) (fun s10 l7 m8 h9 => K.uncons l7 fun t11 l12 => K.uncons l12 fun t13 l14 => K.uncons l14 fun t15 l16 => K.unnil l16 (
K.ldK ctx 108 t13 h9 fun t17 =>
K.nilK t17 fun t18 =>
K.fldK 2 t18 fun t19 =>
K.ldK ctx 3 t19 h9 fun t20 =>
K.ltK (K.binV ctx .lss 3 false t15 t20) t15 t20 fun t21 =>
K.iteV t21 (
K.ldK ctx 108 t13 h9 fun t22 =>
K.nilK t22 fun t23 =>
K.fldK 0 t23 fun t24 =>
K.ldK ctx 29 t24 h9 fun t25 =>
K.ldK ctx 108 t13 h9 fun t26 =>
K.nilK t26 fun t27 =>
K.fldK 1 t27 fun t28 =>
K.ldK ctx 3 t28 h9 fun t29 =>
K.oK (K.binV ctx .quo 3 true t15 (.int .i64 (.ofNat 64))) fun t30 =>
K.addK (K.binV ctx .add 3 false t29 t30) t29 t30 fun t31 =>
K.callFK run 72 [t25, t31] h9 fun t32 h33 =>
K.letK (fun (l34 : List AV) (m35 : List Nat) (h36 : H) => K.uncons l34 fun t38 l39 => K.uncons l39 fun t40 l41 => K.uncons l41 fun t42 l43 => K.uncons l43 fun t44 l45 => K.unnil l45 (
K.callVK run t38 [t42, t44] h36 fun t46 h47 =>
K.notK t46 fun t48 =>
K.iteV t48 (
K.unmarkK m35 h47 fun h49 => .ok (.tup []) h49) (
K.addK (K.binV ctx .add 3 true t42 (.int .i64 (.ofNat 64))) t42 (.int .i64 (.ofNat 64)) fun t50 =>
s10 [t38, t40, t50] m35 h47))) fun j37 =>
K.ldK ctx 108 t13 h33 fun t51 =>
K.nilK t51 fun t52 =>
K.fldK 2 t52 fun t53 =>
K.ldK ctx 3 t53 h33 fun t54 =>
K.subK (K.binV ctx .sub 3 false t54 t15) t54 t15 fun t55 =>
K.ltK (K.binV ctx .lss 3 true t55 (.int .i64 (.ofNat 64))) t55 (.int .i64 (.ofNat 64)) fun t56 =>
K.iteV t56 (
K.oK (K.binV ctx .shl 27 true (.int .u64 (.ofNat 1)) t55) fun t57 =>
K.subK (K.binV ctx .sub 27 true t57 (.int .u64 (.ofNat 1))) t57 (.int .u64 (.ofNat 1)) fun t58 =>
K.oK (K.binV ctx .and 27 false t32 t58) fun t59 =>
j37 [t11, t13, t15, t59] m8 h33) (
j37 [t11, t13, t15, t32] m8 h33)) (
K.unmarkK m8 h9 fun h60 => .ok (.tup []) h60))) [t0, t2, (.int .i64 (.ofNat 0))] [] h))
noncomputable def r160 : K.KRun → List AV → H → K.KR := fun run args h => K.unnil args (
K.bldSK ctx 219 [(0, (.int .u64 (.ofNat 14695981039346656037)))] fun t0 =>
K.boxK t0 h fun t1 h2 =>
K.unmarkK [] h2 fun h3 => .ok t1 h3)
noncomputable def r161 : K.KRun → List AV → H → K.KR := fun run args h => K.uncons args fun t0 l1 => K.uncons l1 fun t2 l3 => K.unnil l3 (
K.neK (K.binV ctx .neq 203 true t0 .nilPtr) t0 .nilPtr fun t4 =>
K.iteV t4 (
K.nilK t0 fun t5 =>
K.fldK 0 t5 fun t6 =>
K.ldK ctx 27 t6 h fun t7 =>
K.oK (K.binV ctx .xor 27 false t7 t2) fun t8 =>
K.mulK (K.binV ctx .mul 27 true t8 (.int .u64 (.ofNat 1099511628211))) t8 (.int .u64 (.ofNat 1099511628211)) fun t9 =>
K.nilK t0 fun t10 =>
K.fldK 0 t10 fun t11 =>
K.stK t11 t9 h fun h12 =>
K.unmarkK [] h12 fun h13 => .ok (.tup []) h13) (
K.unmarkK [] h fun h14 => .ok (.tup []) h14))
noncomputable def r162 : K.KRun → List AV → H → K.KR := fun run args h => K.uncons args fun t0 l1 => K.unnil l1 (
K.boxK t0 h fun t2 h3 =>
K.unmarkK [] h3 fun h4 => .ok (.func (.func 173) [] [t2]) h4)
noncomputable def r163 : K.KRun → List AV → H → K.KR := fun run args h => K.uncons args fun t0 l1 => K.unnil l1 (
K.eqK (K.binV ctx .eql 203 true t0 .nilPtr) t0 .nilPtr fun t2 =>
K.iteV t2 (
K.unmarkK [] h fun h3 => .ok (.int .u64 (.ofNat 0)) h3) (
K.nilK t0 fun t4 =>
K.fldK 0 t4 fun t5 =>
K.ldK ctx 27 t5 h fun t6 =>
K.unmarkK [] h fun h7 => .ok t6 h7))
noncomputable def r164 : K.KRun → List AV → H → K.KR := fun run args h => K.uncons args fun t0 l1 => K.unnil l1 (
K.boxK t0 h fun t2 h3 =>
K.fldK 1 t2 fun t4 =>
K.ldK ctx 3 t4 h3 fun t5 =>
K.fldK 0 t2 fun t6 =>
K.ldK ctx 108 t6 h3 fun t7 =>
K.callFK run 174 [t7] h3 fun t8 h9 =>
K.ldK ctx 3 t4 h9 fun t10 =>
K.req (AV.same t5 t10) (
K.subK (K.binV ctx .sub 3 false t5 t8) t5 t8 fun t11 =>
K.unmarkK [] h9 fun h12 => .ok t11 h12))
noncomputable def r165 : K.KRun → List AV → H → K.KR := fun run args h => K.uncons args fun t0 l1 => K.unnil l1 (
K.boxK t0 h fun t2 h3 =>
K.ldK ctx 52 t2 h3 fun t4 =>
K.eqK (K.binV ctx .eql 52 true t4 .nilPtr) t4 .nilPtr fun t5 =>
K.iteV t5 (
K.unmarkK [] h3 fun h6 => .ok (.tup [(.int .i64 (.ofNat 0)), (.int .i64 (.ofNat 2))]) h6) (
K.ldK ctx 52 t2 h3 fun t7 =>
K.ldK ctx 52 t2 h3 fun t8 =>
K.nilK t8 fun t9 =>
K.fldK 6 t9 fun t10 =>
K.ldsK ctx 112 2 t10 h3 fun t11 =>
K.callFK run 83 [t7, t11, (.func (.func 175) [] [t2])] h3 fun t12 h13 =>
K.extK t12 0 fun t14 =>
K.extK t12 1 fun t15 =>
K.unmarkK [] h13 fun h16 => .ok (.tup [t14, t15]) h16))
noncomputable def r166 : K.KRun → List AV → H → K.KR := fun run args h => K.uncons args fun t0 l1 => K.uncons l1 fun t2 l3 => K.uncons l3 fun t4 l5 => K.unnil l5 (
K.loopV (nat_lit 1000000) (fun s9 l6 m7 h8 => K.uncons l6 fun t10 l11 => K.uncons l11 fun t12 l13 => K.uncons l13 fun t14 l15 => K.uncons l15 fun t16 l17 => K.unnil l17 (
K.ldK ctx 193 t12 h8 fun t18 =>
K.lenVK t18 fun t19 =>
K.ltK (K.binV ctx .lss 3 false t16 t19) t16 t19 fun t20 =>
K.iteV t20 (
K.ldK ctx 3 t14 h8 fun t21 =>
K.ldK ctx 193 t12 h8 fun t22 =>
K.slcK ctx 193 t22 (some t16) none none h8 fun t23 =>
K.lenVK t23 fun t24 =>
K.slowK ctx run (K.opAt Go.Proofs.Tryz.f166 3 5) [13, 17] [t21, t24] h8 fun t25 h26 =>
K.ldK ctx 193 t12 h26 fun t27 =>
K.addK (K.binV ctx .add 3 false t16 t25) t16 t25 fun t28 =>
K.addK (K.binV ctx .add 3 false t16 t25) t16 t25 fun t29 =>
K.slcK ctx 193 t27 (some t16) (some t28) (some t29) h26 fun t30 =>
K.callVK run t10 [t30] h26 fun t31 h32 =>
K.notK t31 fun t33 =>
K.iteV t33 (
K.unmarkK m7 h32 fun h34 => .ok (.tup []) h34) (
K.ldK ctx 3 t14 h32 fun t35 =>
K.addK (K.binV ctx .add 3 false t16 t35) t16 t35 fun t36 =>
s9 [t10, t12, t14, t36] m7 h32)) (
K.unmarkK m7 h8 fun h37 => .ok (.tup []) h37))) [t0, t2, t4, (.int .i64 (.ofNat 0))] [] h)
noncomputable def r167 : K.KRun → List AV → H → K.KR := fun run args h => K.uncons args fun t0 l1 => K.uncons l1 fun t2 l3 => K.unnil l3 (
K.ldK ctx 193 t2 h fun t4 =>
K.lenVK t4 fun t5 =>
K.subK (K.binV ctx .sub 3 true t5 (.int .i64 (.ofNat 1))) t5 (.int .i64 (.ofNat 1)) fun t6 =>
K.loopV (nat_lit 1000000) (fun s10 l7 m8 h9 => K.uncons l7 fun t11 l12 => K.uncons l12 fun t13 l14 => K.uncons l14 fun t15 l16 => K.unnil l16 (
K.geK (K.binV ctx .geq 3 true t15 (.int .i64 (.ofNat 0))) t15 (.int .i64 (.ofNat 0)) fun t17 =>
K.iteV t17 (
K.ldK ctx 193 t13 h9 fun t18 =>
K.idxSK 1 t18 t15 fun t19 =>
K.ldK ctx 5 t19 h9 fun t20 =>
K.callVK run t11 [t15, t20] h9 fun t21 h22 =>
K.notK t21 fun t23 =>
K.iteV t23 (
K.unmarkK m8 h22 fun h24 => .ok (.tup []) h24) (
K.subK (K.binV ctx .sub 3 true t15 (.int .i64 (.ofNat 1))) t15 (.int .i64 (.ofNat 1)) fun t25 =>
s10 [t11, t13, t25] m8 h22)) (
K.unmarkK m8 h9 fun h26 => .ok (.tup []) h26))) [t0, t2, t6] [] h)
noncomputable def r168 : K.KRun → List AV → H → K.KR := fun run args h => K.uncons args fun t0 l1 => K.uncons l1 fun t2 l3 => K.unnil l3 (
K.callFK run 176 [t0, t2] h fun t4 h5 =>
K.geK (K.binV ctx .geq 3 true t4 (.int .i64 (.ofNat 0))) t4 (.int .i64 (.ofNat 0)) fun t6 =>
K.iteV t6 (
K.slcK ctx 9 t0 none (some t4) none h5 fun t7 =>
K.lenTK t2 fun t8 =>
K.addK (K.binV ctx .add 3 false t4 t8) t4 t8 fun t9 =>
K.slcK ctx 9 t0 (some t9) none none h5 fun t10 =>
K.unmarkK [] h5 fun h11 => .ok (.tup [t7, t10, (.bool true)]) h11) (
K.unmarkK [] h5 fun h12 => .ok (.tup [t0, (.str []), (.bool false)]) h12))
noncomputable def r170 : K.KRun → List AV → H → K.KR := fun run args h => K.uncons args fun t0 l1 => K.unnil l1 (
K.gtK (K.binV ctx .gtr 3 true t0 (.int .i64 (.ofNat 8))) t0 (.int .i64 (.ofNat 8)) fun t2 =>
K.unmarkK [] h fun h3 => .ok t2 h3)
noncomputable def r173 : K.KRun → List AV → H → K.KR := fun run args h => K.uncons args fun t0 l1 => K.uncons l1 fun t2 l3 => K.unnil l3 (
K.ldK ctx 31 t2 h fun t4 =>
K.lenVK t4 fun t5 =>
K.loopV (nat_lit 1000000) (fun s9 l6 m7 h8 => K.uncons l6 fun t10 l11 => K.uncons l11 fun t12 l13 => K.uncons l13 fun t14 l15 => K.uncons l15 fun t16 l17 => K.unnil l17 (
K.ltK (K.binV ctx .lss 3 false t16 t14) t16 t14 fun t18 =>
K.iteV t18 (
K.idxSK 1 t12 t16 fun t19 =>
K.ldK ctx 27 t19 h8 fun t20 =>
K.callVK run t10 [t20] h8 fun t21 h22 =>
K.notK t21 fun t23 =>
K.iteV t23 (
K.unmarkK m7 h22 fun h24 => .ok (.tup []) h24) (
K.addK (K.binV ctx .add 3 true t16 (.int .i64 (.ofNat 1))) t16 (.int .i64 (.ofNat 1)) fun t25 =>
s9 [t10, t12, t14, t25] m7 h22)) (
K.unmarkK m7 h8 fun h26 => .ok (.tup []) h26))) [t0, t4, t5, (.int .i64 (.ofNat 0))] [] h)
noncomputable def r174 : K.KRun → List AV → H → K.KR := fun run args h => K.uncons args fun t0 l1 => K.unnil l1 (
K.allocK (K.zN ctx 3) (K.zT ctx 3) h fun t2 h3 =>
K.letK (fun (l4 : List AV) (m5 : List Nat) (h6 : H) => K.uncons l4 fun t8 l9 => K.unnil l9 (
K.ldK ctx 3 t8 h6 fun t10 =>
K.stK t8 t10 h6 fun h11 =>
K.unmarkK m5 h11 fun h12 => K.asPtr t8 fun n13 n14 => K.load1 h12 n13 n14 fun t15 => .ok t15 h12)) fun j7 =>
K.callFK run 141 [t0] h3 fun t16 h17 =>
K.hNew h17 .marks fun r18 h19 => K.hNew h19 (.loop .ready none (K.mkT [2, 6] [t2, t16]) 10 r18) fun n20 h21 =>
K.rngK ctx run t16 n20 h21 (fun h23 => j7 [t2] (r18 :: []) h23) (fun h24 => K.unmarkK (r18 :: []) h24 fun h27 => K.asPtr t2 fun n28 n29 => K.load1 h27 n28 n29 fun t30 => .ok t30 h27) fun i22 h25 => (Bool.rec (motive := fun _ => K.KR) (.bad) (j7 [t2] (r18 :: []) h25) (Nat.beq i22 0)))
noncomputable def r175 : K.KRun → List AV → H → K.KR := fun run args h => K.uncons args fun t0 l1 => K.uncons l1 fun t2 l3 => K.unnil l3 (
K.ldK ctx 52 t2 h fun t4 =>
K.nilK t4 fun t5 =>
K.fldK 1 t5 fun t6 =>
K.ldsK ctx 23 3 t6 h fun t7 =>
K.callFK run 128 [t7, t0] h fun t8 h9 =>
K.letK (fun (l10 : List AV) (m11 : List Nat) (h12 : H) => K.uncons l10 fun t14 l15 => K.unnil l15 (
K.unmarkK m11 h12 fun h16 => .ok t14 h16)) fun j13 =>
K.loopV (nat_lit 1000000) (fun s20 l17 m18 h19 => K.uncons l17 fun t21 l22 => K.uncons l22 fun t23 l24 => K.uncons l24 fun t25 l26 => K.unnil l26 (
K.ltK (K.binV ctx .lss 3 true t25 (.int .i64 (.ofNat 8))) t25 (.int .i64 (.ofNat 8)) fun t27 =>
K.iteV t27 (
K.addK (K.binV ctx .add 3 false t23 t25) t23 t25 fun t28 =>
K.bslK ctx 3 1 1 [(0, t28)] h19 fun t29 h30 =>
K.appK ctx 3 1 t21 t29 h30 fun t31 h32 =>
K.addK (K.binV ctx .add 3 true t25 (.int .i64 (.ofNat 1))) t25 (.int .i64 (.ofNat 1)) fun t33 =>
s20 [t31, t23, t33] m18 h32) (
j13 [t21] m18 h19))) [.nilSlice, t8, (.int .i64 (.ofNat 0))] [] h9)
noncomputable def r176 : K.KRun → List AV → H → K.KR := fun run args h => K.uncons args fun t0 l1 => K.uncons l1 fun t2 l3 => K.unnil l3 (
K.lenTK t2 fun t4 =>
K.eqK (K.binV ctx .eql 3 true t4 (.int .i64 (.ofNat 0))) t4 (.int .i64 (.ofNat 0)) fun t5 =>
K.letK (fun (t6 : AV) (h7 : H) => K.letK (fun (t9 : AV) (h10 : H) => K.letK (fun (t12 : AV) (h13 : H) => K.pickK t5 (.bool true) t12 fun t15 =>
K.iteV t15 (
K.unmarkK [] h13 fun h16 => .ok (.int .i64 (.ofNat 0)) h16) (
K.eqK (K.binV ctx .eql 3 true t4 (.int .i64 (.ofNat 1))) t4 (.int .i64 (.ofNat 1)) fun t17 =>
K.iteV t17 (
K.idxTK t2 (.int .i64 (.ofNat 0)) fun t18 =>
K.callFK run 182 [t0, t18] h13 fun t19 h20 =>
K.unmarkK [] h20 fun h21 => .ok t19 h21) (
K.lenTK t0 fun t22 =>
K.geK (K.binV ctx .geq 3 false t4 t22) t4 t22 fun t23 =>
K.iteV t23 (
K.unmarkK [] h13 fun h24 => .ok (.int .i64 (.negSucc 0)) h24) (
K.ldK ctx 3 (.gptr 2 0) h13 fun t25 =>
K.leK (K.binV ctx .leq 3 false t4 t25) t4 t25 fun t26 =>
K.letK (fun (t27 : AV) (h28 : H) => K.letK (fun (t30 : AV) (h31 : H) => K.letK (fun (t33 : AV) (h34 : H) => K.pickK t26 t33 (.bool false) fun t36 =>
K.iteV t36 (
K.callFK run 180 [t0, t2] h34 fun t37 h38 =>
K.unmarkK [] h38 fun h39 => .ok t37 h39) (
K.idxTK t2 (.int .i64 (.ofNat 0)) fun t40 =>
K.idxTK t2 (.int .i64 (.ofNat 1)) fun t41 =>
K.lenTK t0 fun t42 =>
K.subK (K.binV ctx .sub 3 false t42 t4) t42 t4 fun t43 =>
K.addK (K.binV ctx .add 3 true t43 (.int .i64 (.ofNat 1))) t43 (.int .i64 (.ofNat 1)) fun t44 =>
K.letK (fun (l45 : List AV) (m46 : List Nat) (h47 : H) => K.unnil l45 (
K.unmarkK m46 h47 fun h49 => .ok (.int .i64 (.negSucc 0)) h49)) fun j48 =>
K.loopV (nat_lit 1000000) (fun s53 l50 m51 h52 => K.uncons l50 fun t54 l55 => K.uncons l55 fun t56 l57 => K.uncons l57 fun t58 l59 => K.uncons l59 fun t60 l61 => K.uncons l61 fun t62 l63 => K.uncons l63 fun t64 l65 => K.uncons l65 fun t66 l67 => K.uncons l67 fun t68 l69 => K.unnil l69 (
K.ltK (K.binV ctx .lss 3 false t64 t66) t64 t66 fun t70 =>
K.iteV t70 (
K.letK (fun (l71 : List AV) (m72 : List Nat) (h73 : H) => K.uncons l71 fun t75 l76 => K.uncons l76 fun t77 l78 => K.uncons l78 fun t79 l80 => K.uncons l80 fun t81 l82 => K.uncons l82 fun t83 l84 => K.uncons l84 fun t85 l86 => K.uncons l86 fun t87 l88 => K.uncons l88 fun t89 l90 => K.unnil l90 (
K.addK (K.binV ctx .add 3 true t85 (.int .i64 (.ofNat 1))) t85 (.int .i64 (.ofNat 1)) fun t91 =>
K.idxTK t75 t91 fun t92 =>
K.eqK (K.binV ctx .eql 5 false t92 t83) t92 t83 fun t93 =>
K.letK (fun (t94 : AV) (h95 : H) => K.letK (fun (t97 : AV) (h98 : H) => K.letK (fun (t100 : AV) (h101 : H) => K.letK (fun (t103 : AV) (h104 : H) => K.letK (fun (t106 : AV) (h107 : H) => K.letK (fun (t109 : AV) (h110 : H) => K.letK (fun (t112 : AV) (h113 : H) => K.letK (fun (t115 : AV) (h116 : H) => K.pickK t93 t115 (.bool false) fun t118 =>
K.iteV t118 (
K.unmarkK m72 h116 fun h119 => .ok t85 h119) (
K.addK (K.binV ctx .add 3 true t85 (.int .i64 (.ofNat 1))) t85 (.int .i64 (.ofNat 1)) fun t120 =>
K.addK (K.binV ctx .add 3 true t89 (.int .i64 (.ofNat 1))) t89 (.int .i64 (.ofNat 1)) fun t121 =>
K.ldK ctx 3 (.gptr 2 0) h116 fun t122 =>
K.leK (K.binV ctx .leq 3 false t79 t122) t79 t122 fun t123 =>
K.letK (fun (t124 : AV) (h125 : H) => K.letK (fun (t127 : AV) (h128 : H) => K.letK (fun (t130 : AV) (h131 : H) => K.letK (fun (t133 : AV) (h134 : H) => K.pickK t123 t133 (.bool false) fun t136 =>
K.iteV t136 (
K.slcK ctx 9 t75 (some t120) none none h134 fun t137 =>
K.callFK run 180 [t137, t77] h134 fun t138 h139 =>
K.geK (K.binV ctx .geq 3 true t138 (.int .i64 (.ofNat 0))) t138 (.int .i64 (.ofNat 0)) fun t140 =>
K.iteV t140 (
K.addK (K.binV ctx .add 3 false t138 t120) t138 t120 fun t141 =>
K.unmarkK m72 h139 fun h142 => .ok t141 h142) (
K.unmarkK m72 h139 fun h143 => .ok (.int .i64 (.negSucc 0)) h143)) (
K.ldK ctx 3 (.gptr 2 0) h134 fun t144 =>
K.gtK (K.binV ctx .gtr 3 false t79 t144) t79 t144 fun t145 =>
K.letK (fun (t146 : AV) (h147 : H) => K.letK (fun (t149 : AV) (h150 : H) => K.letK (fun (t152 : AV) (h153 : H) => K.letK (fun (t155 : AV) (h156 : H) => K.letK (fun (t158 : AV) (h159 : H) => K.pickK t145 t158 (.bool false) fun t161 =>
K.letK (fun (t162 : AV) (h163 : H) => K.letK (fun (t165 : AV) (h166 : H) => K.letK (fun (t168 : AV) (h169 : H) => K.pickK t161 t168 (.bool false) fun t171 =>
K.iteV t171 (
K.slcK ctx 9 t75 (some t120) none none h169 fun t172 =>
K.callFK run 183 [t172, t77] h169 fun t173 h174 =>
K.ltK (K.binV ctx .lss 3 true t173 (.int .i64 (.ofNat 0))) t173 (.int .i64 (.ofNat 0)) fun t175 =>
K.iteV t175 (
K.unmarkK m72 h174 fun h176 => .ok (.int .i64 (.negSucc 0)) h176) (
K.addK (K.binV ctx .add 3 false t120 t173) t120 t173 fun t177 =>
K.unmarkK m72 h174 fun h178 => .ok t177 h178)) (
s53 [t75, t77, t79, t81, t83, t120, t87, t121] m72 h169)) fun j170 =>
K.guK true t161 (K.ltK (K.binV ctx .lss 3 false t162 t165) t162 t165 fun t179 =>
j170 t179 h166) (j170 (.tup []) h166)) fun j167 =>
K.guK true t161 (j167 t87 h163) (j167 (.tup []) h163)) fun j164 =>
K.guK true t161 (j164 t120 h159) (j164 (.tup []) h159)) fun j160 =>
K.guK true t145 (K.geK (K.binV ctx .geq 3 false t146 t155) t146 t155 fun t180 =>
j160 t180 h156) (j160 (.tup []) h156)) fun j157 =>
K.guK true t145 (K.addK (K.binV ctx .add 3 true (.int .i64 (.ofNat 4)) t152) (.int .i64 (.ofNat 4)) t152 fun t181 =>
j157 t181 h153) (j157 (.tup []) h153)) fun j154 =>
K.guK true t145 (K.oK (K.binV ctx .shr 3 true t149 (.int .u64 (.ofNat 4))) fun t182 =>
j154 t182 h150) (j154 (.tup []) h150)) fun j151 =>
K.guK true t145 (j151 t120 h147) (j151 (.tup []) h147)) fun j148 =>
K.guK true t145 (j148 t121 h134) (j148 (.tup []) h134))) fun j135 =>
K.guK true t123 (K.gtK (K.binV ctx .gtr 3 false t124 t130) t124 t130 fun t183 =>
j135 t183 h131) (j135 (.tup []) h131)) fun j132 =>
K.guK true t123 (K.callFK run 179 [t127] h128 fun t184 h185 =>
j132 t184 h185) (j132 (.tup []) h128)) fun j129 =>
K.guK true t123 (j129 t120 h125) (j129 (.tup []) h125)) fun j126 =>
K.guK true t123 (j126 t121 h116) (j126 (.tup []) h116))) fun j117 =>
K.guK true t93 (K.eqK (K.binV ctx .eql 9 false t109 t112) t109 t112 fun t186 =>
j117 t186 h113) (j117 (.tup []) h113)) fun j114 =>
K.guK true t93 (j114 t77 h110) (j114 (.tup []) h110)) fun j111 =>
K.guK true t93 (K.slcK ctx 9 t94 (some t97) (some t106) none h107 fun t187 =>
j111 t187 h107) (j111 (.tup []) h107)) fun j108 =>
K.guK true t93 (K.addK (K.binV ctx .add 3 false t100 t103) t100 t103 fun t188 =>
j108 t188 h104) (j108 (.tup []) h104)) fun j105 =>
K.guK true t93 (j105 t79 h101) (j105 (.tup []) h101)) fun j102 =>
K.guK true t93 (j102 t85 h98) (j102 (.tup []) h98)) fun j99 =>
K.guK true t93 (j99 t85 h95) (j99 (.tup []) h95)) fun j96 =>
K.guK true t93 (j96 t75 h73) (j96 (.tup []) h73))) fun j74 =>
K.idxTK t54 t64 fun t189 =>
K.neK (K.binV ctx .neq 5 false t189 t60) t189 t60 fun t190 =>
K.iteV t190 (
K.addK (K.binV ctx .add 3 true t64 (.int .i64 (.ofNat 1))) t64 (.int .i64 (.ofNat 1)) fun t191 =>
K.slcK ctx 9 t54 (some t191) (some t66) none h52 fun t192 =>
K.callFK run 182 [t192, t60] h52 fun t193 h194 =>
K.ltK (K.binV ctx .lss 3 true t193 (.int .i64 (.ofNat 0))) t193 (.int .i64 (.ofNat 0)) fun t195 =>
K.iteV t195 (
K.unmarkK m51 h194 fun h196 => .ok (.int .i64 (.negSucc 0)) h196) (
K.addK (K.binV ctx .add 3 true t193 (.int .i64 (.ofNat 1))) t193 (.int .i64 (.ofNat 1)) fun t197 =>
K.addK (K.binV ctx .add 3 false t64 t197) t64 t197 fun t198 =>
j74 [t54, t56, t58, t60, t62, t198, t66, t68] m51 h194)) (
j74 [t54, t56, t58, t60, t62, t64, t66, t68] m51 h52)) (
j48 [] m51 h52))) [t0, t2, t4, t40, t41, (.int .i64 (.ofNat 0)), t44, (.int .i64 (.ofNat 0))] [] h34)) fun j35 =>
K.guK true t26 (K.leK (K.binV ctx .leq 3 true t30 (.int .i64 (.ofNat 64))) t30 (.int .i64 (.ofNat 64)) fun t199 =>
j35 t199 h31) (j35 (.tup []) h31)) fun j32 =>
K.guK true t26 (K.lenTK t27 fun t200 =>
j32 t200 h28) (j32 (.tup []) h28)) fun j29 =>
K.guK true t26 (j29 t0 h13) (j29 (.tup []) h13))))) fun j14 =>
K.guK false t5 (K.eqK (K.binV ctx .eql 9 false t6 t9) t6 t9 fun t201 =>
j14 t201 h10) (j14 (.tup []) h10)) fun j11 =>
K.guK false t5 (j11 t0 h7) (j11 (.tup []) h7)) fun j8 =>
K.guK false t5 (j8 t2 h) (j8 (.tup []) h))
noncomputable def r177 : K.KRun → List AV → H → K.KR := fun run args h => K.uncons args fun t0 l1 => K.uncons l1 fun t2 l3 => K.unnil l3 (
K.callFK run 182 [t0, t2] h fun t4 h5 =>
K.unmarkK [] h5 fun h6 => .ok t4 h6)
noncomputable def r181 : K.KRun → List AV → H → K.KR := fun run args h => K.uncons args fun t0 l1 => K.unnil l1 (
K.oK (K.binV ctx .shr 27 true t0 (.int .u64 (.ofNat 1))) fun t2 =>
K.oK (K.binV ctx .and 27 true t2 (.int .u64 (.ofNat 6148914691236517205))) fun t3 =>
K.oK (K.binV ctx .and 27 true t0 (.int .u64 (.ofNat 6148914691236517205))) fun t4 =>
K.addK (K.binV ctx .add 27 false t3 t4) t3 t4 fun t5 =>
K.oK (K.binV ctx .shr 27 true t5 (.int .u64 (.ofNat 2))) fun t6 =>
K.oK (K.binV ctx .and 27 true t6 (.int .u64 (.ofNat 3689348814741910323))) fun t7 =>
K.oK (K.binV ctx .and 27 true t5 (.int .u64 (.ofNat 3689348814741910323))) fun t8 =>
K.addK (K.binV ctx .add 27 false t7 t8) t7 t8 fun t9 =>
K.oK (K.binV ctx .shr 27 true t9 (.int .u64 (.ofNat 4))) fun t10 =>
K.addK (K.binV ctx .add 27 false t10 t9) t10 t9 fun t11 =>
K.oK (K.binV ctx .and 27 true t11 (.int .u64 (.ofNat 1085102592571150095))) fun t12 =>
K.oK (K.binV ctx .shr 27 true t12 (.int .u64 (.ofNat 8))) fun t13 =>
K.addK (K.binV ctx .add 27 false t12 t13) t12 t13 fun t14 =>
K.oK (K.binV ctx .shr 27 true t14 (.int .u64 (.ofNat 16))) fun t15 =>
K.addK (K.binV ctx .add 27 false t14 t15) t14 t15 fun t16 =>
K.oK (K.binV ctx .shr 27 true t16 (.int .u64 (.ofNat 32))) fun t17 =>
K.addK (K.binV ctx .add 27 false t16 t17) t16 t17 fun t18 =>
K.rK (convA ctx 27 3 t18 h) fun t19 h20 =>
K.oK (K.binV ctx .and 3 true t19 (.int .i64 (.ofNat 127))) fun t21 =>
K.unmarkK [] h20 fun h22 => .ok t21 h22)
noncomputable def r182 : K.KRun → List AV → H → K.KR := fun run args h => K.uncons args fun t0 l1 => K.uncons l1 fun t2 l3 => K.unnil l3 (
K.callFK run 184 [t0, t2] h fun t4 h5 =>
K.unmarkK [] h5 fun h6 => .ok t4 h6)
noncomputable def y1 : K.RnF := fun run l args env h => K.uncons args fun t0 l1 => K.unnil l1 (
K.opt (K.get env 6) fun t2 => K.opt (K.get env 7) fun t3 => K.opt (K.get env 8) fun t4 => K.begR l h fun h5 =>
K.ldsK ctx 124 5 t4 h5 fun t6 =>
K.callFK run 105 [t6, t0] h5 fun t7 h8 =>
K.extK t7 0 fun t9 =>
K.extK t7 1 fun t10 =>
K.allocK (K.zN ctx 64) (K.zT ctx 64) h8 fun t11 h12 =>
K.stsK 2 t11 t9 h12 fun h13 =>
K.neK (K.binV ctx .neq 24 true t10 (.int .i64 (.ofNat 0))) t10 (.int .i64 (.ofNat 0)) fun t14 =>
K.iteV t14 (
K.stK t2 .nilSlice h13 fun h15 =>
K.stK t3 t10 h15 fun h16 =>
K.finR l h16 .done (some .ret) false) (
K.ldsK ctx 64 2 t11 h13 fun t17 =>
K.bldSK ctx 64 [] fun t18 =>
K.neK (K.binV ctx .neq 64 false t17 t18) t17 t18 fun t19 =>
K.iteV t19 (
K.ldK ctx 82 t2 h13 fun t20 =>
K.ldsK ctx 64 2 t11 h13 fun t21 =>
K.bslK ctx 64 2 1 [(0, t21)] h13 fun t22 h23 =>
K.appK ctx 64 2 t20 t22 h23 fun t24 h25 =>
K.stK t2 t24 h25 fun h26 =>
K.finR l h26 .ready none true) (
K.finR l h13 .ready none true)))
noncomputable def y2 : K.RnF := fun run l args env h => K.uncons args fun t0 l1 => K.unnil l1 (
K.opt (K.get env 2) fun t2 => K.opt (K.get env 4) fun t3 => K.begR l h fun h4 =>
K.ldK ctx 85 t2 h4 fun t5 =>
K.callFK run 107 [t5, t0] h4 fun t6 h7 =>
K.neK (K.binV ctx .neq 24 true t6 (.int .i64 (.ofNat 0))) t6 (.int .i64 (.ofNat 0)) fun t8 =>
K.iteV t8 (
K.stK t3 t6 h7 fun h9 =>
K.finR l h9 .done (some .ret) false) (
K.finR l h7 .ready none true))
noncomputable def y3 : K.RnF := fun run l args env h => K.uncons args fun t0 l1 => K.unnil l1 (
K.opt (K.get env 2) fun t2 => K.opt (K.get env 3) fun t3 => K.opt (K.get env 4) fun t4 => K.opt (K.get env 5) fun t5 => K.opt (K.get env 6) fun t6 => K.begR l h fun h7 =>
K.ldsK ctx 124 5 t2 h7 fun t8 =>
K.callFK run 105 [t8, t0] h7 fun t9 h10 =>
K.extK t9 0 fun t11 =>
K.extK t9 1 fun t12 =>
K.allocK (K.zN ctx 64) (K.zT ctx 64) h10 fun t13 h14 =>
K.stsK 2 t13 t11 h14 fun h15 =>
K.neK (K.binV ctx .neq 24 true t12 (.int .i64 (.ofNat 0))) t12 (.int .i64 (.ofNat 0)) fun t16 =>
K.iteV t16 (
K.bldSK ctx 64 [] fun t17 =>
K.stsK 2 t4 t17 h15 fun h18 =>
K.stK t5 (.int .i64 (.ofNat 0)) h18 fun h19 =>
K.stK t6 t12 h19 fun h20 =>
K.finR l h20 .done (some .ret) false) (
K.ldsK ctx 64 2 t13 h15 fun t21 =>
K.ldK ctx 9 t3 h15 fun t22 =>
K.fldK 1 t13 fun t23 =>
K.ldK ctx 3 t23 h15 fun t24 =>
K.bldSK ctx 64 [(0, t22), (1, t24)] fun t25 =>
K.eqK (K.binV ctx .eql 64 false t21 t25) t21 t25 fun t26 =>
K.iteV t26 (
K.ldsK ctx 64 2 t13 h15 fun t27 =>
K.stsK 2 t4 t27 h15 fun h28 =>
K.stK t5 t0 h28 fun h29 =>
K.stK t6 (.int .i64 (.ofNat 0)) h29 fun h30 =>
K.finR l h30 .done (some .ret) false) (
K.finR l h15 .ready none true)))
noncomputable def y4 : K.RnF := fun run l args env h => K.uncons args fun t0 l1 => K.unnil l1 (
K.opt (K.get env 2) fun t2 => K.opt (K.get env 3) fun t3 => K.opt (K.get env 4) fun t4 => K.begR l h fun h5 =>
K.fldK 4 t2 fun t6 =>
K.ldK ctx 85 t6 h5 fun t7 =>
K.callFK run 125 [t7, t0] h5 fun t8 h9 =>
K.extK t8 0 fun t10 =>
K.extK t8 1 fun t11 =>
K.neK (K.binV ctx .neq 3 true t10 (.int .i64 (.ofNat 0))) t10 (.int .i64 (.ofNat 0)) fun t12 =>
K.letK (fun (t13 : AV) (h14 : H) => K.letK (fun (t16 : AV) (h17 : H) => K.pickK t12 (.bool true) t16 fun t19 =>
K.iteV t19 (
K.finR l h17 .ready none true) (
K.fldK 4 t2 fun t20 =>
K.ldK ctx 85 t20 h17 fun t21 =>
K.callFK run 126 [t21, t0] h17 fun t22 h23 =>
K.extK t22 0 fun t24 =>
K.extK t22 1 fun t25 =>
K.neK (K.binV ctx .neq 24 true t25 (.int .i64 (.ofNat 0))) t25 (.int .i64 (.ofNat 0)) fun t26 =>
K.iteV t26 (
K.stK t4 t25 h23 fun h27 =>
K.finR l h27 .done (some .ret) false) (
K.letK (fun (l28 : List AV) (m29 : List Nat) (h30 : H) => K.uncons l28 fun t32 l33 => K.unnil l33 (
K.stK t32 (.int .i64 (.ofNat 0)) h30 fun h34 =>
K.finR l h34 .done (some .ret) false)) fun j31 =>
K.fldK 1 t3 fun t35 =>
K.ldK ctx 3 t35 h23 fun t36 =>
K.rK (convA ctx 3 27 t36 h23) fun t37 h38 =>
K.fldK 0 t3 fun t39 =>
K.ldK ctx 9 t39 h38 fun t40 =>
K.lenTK t40 fun t41 =>
K.rK (convA ctx 3 27 t41 h38) fun t42 h43 =>
K.fldK 0 t3 fun t44 =>
K.ldK ctx 9 t44 h43 fun t45 =>
K.callFK run 127 [t45] h43 fun t46 h47 =>
K.ldK ctx 9 t39 h47 fun t48 =>
K.req (AV.same t40 t48) (
K.ldK ctx 3 t35 h47 fun t49 =>
K.req (AV.same t36 t49) (
K.bslK ctx 27 1 2 [(0, t37), (1, t42)] h47 fun t50 h51 =>
K.appK ctx 27 1 t50 t46 h51 fun t52 h53 =>
K.lenVK t52 fun t54 =>
K.loopV (nat_lit 1000000) (fun s58 l55 m56 h57 => K.uncons l55 fun t59 l60 => K.uncons l60 fun t61 l62 => K.uncons l62 fun t63 l64 => K.uncons l64 fun t65 l66 => K.uncons l66 fun t67 l68 => K.uncons l68 fun t69 l70 => K.unnil l70 (
K.ltK (K.binV ctx .lss 3 false t69 t67) t69 t67 fun t71 =>
K.iteV t71 (
K.idxSK 1 t65 t69 fun t72 =>
K.ldK ctx 27 t72 h57 fun t73 =>
K.fldK 0 t59 fun t74 =>
K.ldK ctx 29 t74 h57 fun t75 =>
K.fldK 1 t59 fun t76 =>
K.ldsK ctx 23 3 t76 h57 fun t77 =>
K.callFK run 128 [t77, t63] h57 fun t78 h79 =>
K.ldK ctx 29 t74 h79 fun t80 =>
K.req (AV.same t75 t80) (
K.addK (K.binV ctx .add 3 false t78 t69) t78 t69 fun t81 =>
K.callFK run 43 [t75, t81, t73] h79 fun t82 h83 =>
K.neK (K.binV ctx .neq 24 true t82 (.int .i64 (.ofNat 0))) t82 (.int .i64 (.ofNat 0)) fun t84 =>
K.iteV t84 (
K.stK t61 t82 h83 fun h85 =>
K.finR l h85 .done (some .ret) false) (
K.addK (K.binV ctx .add 3 true t69 (.int .i64 (.ofNat 1))) t69 (.int .i64 (.ofNat 1)) fun t86 =>
s58 [t59, t61, t63, t65, t67, t86] m56 h83))) (
j31 [t61] m56 h57))) [t2, t4, t24, t52, t54, (.int .i64 (.ofNat 0))] [] h53))))) fun j18 =>
K.guK false t12 (K.neK (K.binV ctx .neq 24 true t13 (.int .i64 (.ofNat 0))) t13 (.int .i64 (.ofNat 0)) fun t87 =>
j18 t87 h14) (j18 (.tup []) h14)) fun j15 =>
K.guK false t12 (j15 t11 h9) (j15 (.tup []) h9))
noncomputable def y5 : K.RnF := fun run l args env h => K.uncons args fun t0 l1 => K.unnil l1 (
K.opt (K.get env 2) fun t2 => K.opt (K.get env 3) fun t3 => K.begR l h fun h4 =>
K.callFK run 123 [t0] h4 fun t5 h6 =>
K.notK t5 fun t7 =>
K.iteV t7 (
K.stK t2 .nilSlice h6 fun h8 =>
K.stK t3 (.int .i64 (.ofNat 13)) h8 fun h9 =>
K.finR l h9 .done (some .ret) false) (
K.ldK ctx 133 t2 h6 fun t10 =>
K.bslK ctx 9 1 1 [(0, t0)] h6 fun t11 h12 =>
K.appK ctx 9 1 t10 t11 h12 fun t13 h14 =>
K.stK t2 t13 h14 fun h15 =>
K.finR l h15 .ready none true))
noncomputable def y6 : K.RnF := fun run l args env h => K.uncons args fun t0 l1 => K.uncons l1 fun t2 l3 => K.unnil l3 (
K.opt (K.get env 1) fun t4 => K.opt (K.get env 2) fun t5 => K.opt (K.get env 3) fun t6 => K.begR l h fun h7 =>
K.oK (unA .xor t2) fun t8 =>
K.callFK run 142 [t8] h7 fun t9 h10 =>
K.addK (K.binV ctx .add 3 false t0 t9) t0 t9 fun t11 =>
K.addK (K.binV ctx .add 3 true t0 (.int .i64 (.ofNat 64))) t0 (.int .i64 (.ofNat 64)) fun t12 =>
K.ltK (K.binV ctx .lss 3 false t11 t12) t11 t12 fun t13 =>
K.letK (fun (t14 : AV) (h15 : H) => K.letK (fun (t17 : AV) (h18 : H) => K.letK (fun (t20 : AV) (h21 : H) => K.letK (fun (t23 : AV) (h24 : H) => K.letK (fun (t26 : AV) (h27 : H) => K.letK (fun (t29 : AV) (h30 : H) => K.pickK t13 t29 (.bool false) fun t32 =>
K.iteV t32 (
K.stK t5 t11 h30 fun h33 =>
K.stK t6 (.bool true) h33 fun h34 =>
K.finR l h34 .done (some .ret) false) (
K.finR l h30 .ready none true)) fun j31 =>
K.guK true t13 (K.ltK (K.binV ctx .lss 3 false t14 t26) t14 t26 fun t35 =>
j31 t35 h27) (j31 (.tup []) h27)) fun j28 =>
K.guK true t13 (K.ldK ctx 3 t23 h24 fun t36 =>
j28 t36 h24) (j28 (.tup []) h24)) fun j25 =>
K.guK true t13 (K.fldK 2 t20 fun t37 =>
j25 t37 h21) (j25 (.tup []) h21)) fun j22 =>
K.guK true t13 (K.nilK t17 fun t38 =>
j22 t38 h18) (j22 (.tup []) h18)) fun j19 =>
K.guK true t13 (K.ldK ctx 108 t4 h15 fun t39 =>
j19 t39 h15) (j19 (.tup []) h15)) fun j16 =>
K.guK true t13 (j16 t11 h10) (j16 (.tup []) h10))
noncomputable def y7 : K.RnF := fun run l args env h => K.uncons args fun t0 l1 => K.uncons l1 fun t2 l3 => K.unnil l3 (
K.opt (K.get env 4) fun t4 => K.begR l h fun h5 =>
K.ldK ctx 27 t4 h5 fun t6 =>
K.oK (K.binV ctx .shl 27 true t6 (.int .u64 (.ofNat 8))) fun t7 =>
K.rK (convA ctx 5 27 t2 h5) fun t8 h9 =>
K.oK (K.binV ctx .or 27 false t7 t8) fun t10 =>
K.stK t4 t10 h9 fun h11 =>
K.finR l h11 .ready none true)
noncomputable def y8 : K.RnF := fun run l args env h => K.uncons args fun t0 l1 => K.unnil l1 (
K.opt (K.get env 2) fun t2 => K.begR l h fun h3 =>
K.allocK (K.zN ctx 27) (K.zT ctx 27) h3 fun t4 h5 =>
K.stK t4 (.int .u64 (.ofNat 0)) h5 fun h6 =>
K.letK (fun (l7 : List AV) (m8 : List Nat) (h9 : H) => K.uncons l7 fun t11 l12 => K.uncons l12 fun t13 l14 => K.unnil l14 (
K.ldK ctx 31 t11 h9 fun t15 =>
K.ldK ctx 27 t13 h9 fun t16 =>
K.bslK ctx 27 1 1 [(0, t16)] h9 fun t17 h18 =>
K.appK ctx 27 1 t15 t17 h18 fun t19 h20 =>
K.stK t11 t19 h20 fun h21 =>
K.finR l h21 .ready none true)) fun j10 =>
K.callFK run 151 [t0] h6 fun t22 h23 =>
K.opt (K.hObj h23 l) fun o32 => K.asLoop o32 fun _ _ _ _ r24 => K.hNew h23 (.loop .ready none (K.mkT [2, 4, 12] [t2, t4, t22]) 7 r24) fun n26 h27 =>
K.rngK ctx run t22 n26 h27 (fun h29 => j10 [t2, t4] [] h29) (fun h30 => K.finR l h30 .done (some .ret) false) fun i28 h31 => (Bool.rec (motive := fun _ => K.KR) ((Bool.rec (motive := fun _ => K.KR) (K.finR l h31 .done (some (.exit i28)) false) (K.finR l h31 .ready none true) (Nat.beq i28 1))) (j10 [t2, t4] [] h31) (Nat.beq i28 2)))
noncomputable def y9 : K.RnF := fun run l args env h => K.uncons args fun t0 l1 => K.unnil l1 (
K.opt (K.get env 4) fun t2 => K.begR l h fun h3 =>
K.ldK ctx 205 t2 h3 fun t4 =>
K.callVK run t4 [t0] h3 fun t5 h6 =>
K.finR l h6 .ready none true)
noncomputable def y10 : K.RnF := fun run l args env h => K.uncons args fun t0 l1 => K.uncons l1 fun t2 l3 => K.unnil l3 (
K.opt (K.get env 2) fun t4 => K.begR l h fun h5 =>
K.ldK ctx 3 t4 h5 fun t6 =>
K.callFK run 181 [t2] h5 fun t7 h8 =>
K.ldK ctx 3 t4 h8 fun t9 =>
K.req (AV.same t6 t9) (
K.addK (K.binV ctx .add 3 false t6 t7) t6 t7 fun t10 =>
K.stK t4 t10 h8 fun h11 =>
K.finR l h11 .ready none true))
end YtpfgllikhklnoaaGreatDoorNmM
