/- PRINTED BY Gen2.lean (own): functions as plain texts, part 1. -/
import Derived.Test.YthlpjeoddenioaaGreatDoorSfCtx
namespace YthlpjeoddenioaaGreatDoorSfM
open Go Am
set_option maxRecDepth 100000
noncomputable def r26 : K.KRun → List AV → H → K.KR := fun run args h => K.uncons args fun t0 l1 => K.unnil l1 (
K.ltK (K.binV ctx .lss 3 true t0 (.int .i64 (.ofNat 8))) t0 (.int .i64 (.ofNat 8)) fun t2 =>
K.letK (fun (t3 : AV) (h4 : H) => K.letK (fun (t6 : AV) (h7 : H) => K.pickK t2 (.bool true) t6 fun t9 =>
K.letK (fun (t10 : AV) (h11 : H) => K.letK (fun (t13 : AV) (h14 : H) => K.letK (fun (t16 : AV) (h17 : H) => K.pickK t9 (.bool true) t16 fun t19 =>
K.iteV t19 (
K.unmarkK [] h17 fun h20 => .ok (.tup [.nilPtr, (.int .i64 (.ofNat 1))]) h20) (
K.mslK ctx 112 6 t0 t0 h17 fun t21 h22 =>
K.bldSK ctx 127 [(0, t21)] fun t23 =>
K.boxK t23 h22 fun t24 h25 =>
K.unmarkK [] h25 fun h26 => .ok (.tup [t24, (.int .i64 (.ofNat 0))]) h26)) fun j18 =>
K.guK false t9 (K.neK (K.binV ctx .neq 3 true t13 (.int .i64 (.ofNat 0))) t13 (.int .i64 (.ofNat 0)) fun t27 =>
j18 t27 h14) (j18 (.tup []) h14)) fun j15 =>
K.guK false t9 (K.oK (K.binV ctx .rem 3 true t10 (.int .i64 (.ofNat 8))) fun t28 =>
j15 t28 h11) (j15 (.tup []) h11)) fun j12 =>
K.guK false t9 (j12 t0 h7) (j12 (.tup []) h7)) fun j8 =>
K.guK false t2 (K.gtK (K.binV ctx .gtr 3 true t3 (.int .i64 (.ofNat 65536))) t3 (.int .i64 (.ofNat 65536)) fun t29 =>
j8 t29 h4) (j8 (.tup []) h4)) fun j5 =>
K.guK false t2 (j5 t0 h) (j5 (.tup []) h))
noncomputable def r27 : K.KRun → List AV → H → K.KR := fun run args h => K.uncons args fun t0 l1 => K.uncons l1 fun t2 l3 => K.uncons l3 fun t4 l5 => K.unnil l5 (
K.callFK run 49 [t0, t2] h fun t6 h7 =>
K.extK t6 0 fun t8 =>
K.extK t6 1 fun t9 =>
K.letK (fun (l10 : List AV) (m11 : List Nat) (h12 : H) => K.uncons l10 fun t14 l15 => K.unnil l15 (
K.unmarkK m11 h12 fun h16 => .ok t14 h16)) fun j13 =>
K.eqK (K.binV ctx .eql 35 true t9 (.int .i64 (.ofNat 0))) t9 (.int .i64 (.ofNat 0)) fun t17 =>
K.iteV t17 (
K.nilK t8 fun t18 =>
K.fldK 1 t18 fun t19 =>
K.stK t19 t4 h7 fun h20 =>
K.nilK t8 fun t21 =>
K.fldK 2 t21 fun t22 =>
K.fldK 0 t22 fun t23 =>
K.stK t23 (.bool true) h20 fun h24 =>
K.nilK t8 fun t25 =>
K.fldK 2 t25 fun t26 =>
K.fldK 2 t26 fun t27 =>
K.stK t27 (.bool true) h24 fun h28 =>
j13 [t9] [] h28) (
j13 [t9] [] h7))
noncomputable def r28 : K.KRun → List AV → H → K.KR := fun run args h => K.uncons args fun t0 l1 => K.uncons l1 fun t2 l3 => K.unnil l3 (
K.callFK run 50 [t0, t2, (.func (.func 51) [] [])] h fun t4 h5 =>
K.unmarkK [] h5 fun h6 => .ok t4 h6)
noncomputable def r29 : K.KRun → List AV → H → K.KR := fun run args h => K.uncons args fun t0 l1 => K.unnil l1 (
K.boxK t0 h fun t2 h3 =>
K.fldK 0 t2 fun t4 =>
K.ldK ctx 3 t4 h3 fun t5 =>
K.geK (K.binV ctx .geq 3 true t5 (.int .i64 (.ofNat 1))) t5 (.int .i64 (.ofNat 1)) fun t6 =>
K.letK (fun (t7 : AV) (h8 : H) => K.letK (fun (t10 : AV) (h11 : H) => K.letK (fun (t13 : AV) (h14 : H) => K.pickK t6 t13 (.bool false) fun t16 =>
K.letK (fun (t17 : AV) (h18 : H) => K.letK (fun (t20 : AV) (h21 : H) => K.letK (fun (t23 : AV) (h24 : H) => K.pickK t16 t23 (.bool false) fun t26 =>
K.letK (fun (t27 : AV) (h28 : H) => K.letK (fun (t30 : AV) (h31 : H) => K.letK (fun (t33 : AV) (h34 : H) => K.pickK t26 t33 (.bool false) fun t36 =>
K.letK (fun (t37 : AV) (h38 : H) => K.letK (fun (t40 : AV) (h41 : H) => K.letK (fun (t43 : AV) (h44 : H) => K.pickK t36 t43 (.bool false) fun t46 =>
K.letK (fun (t47 : AV) (h48 : H) => K.letK (fun (t50 : AV) (h51 : H) => K.letK (fun (t53 : AV) (h54 : H) => K.pickK t46 t53 (.bool false) fun t56 =>
K.unmarkK [] h54 fun h57 => .ok t56 h57) fun j55 =>
K.guK true t46 (K.leK (K.binV ctx .leq 3 true t50 (.int .i64 (.ofNat 512))) t50 (.int .i64 (.ofNat 512)) fun t58 =>
j55 t58 h51) (j55 (.tup []) h51)) fun j52 =>
K.guK true t46 (K.ldK ctx 3 t47 h48 fun t59 =>
j52 t59 h48) (j52 (.tup []) h48)) fun j49 =>
K.guK true t46 (K.fldK 2 t2 fun t60 =>
j49 t60 h44) (j49 (.tup []) h44)) fun j45 =>
K.guK true t36 (K.geK (K.binV ctx .geq 3 true t40 (.int .i64 (.ofNat 2))) t40 (.int .i64 (.ofNat 2)) fun t61 =>
j45 t61 h41) (j45 (.tup []) h41)) fun j42 =>
K.guK true t36 (K.ldK ctx 3 t37 h38 fun t62 =>
j42 t62 h38) (j42 (.tup []) h38)) fun j39 =>
K.guK true t36 (K.fldK 2 t2 fun t63 =>
j39 t63 h34) (j39 (.tup []) h34)) fun j35 =>
K.guK true t26 (K.leK (K.binV ctx .leq 3 true t30 (.int .i64 (.ofNat 64))) t30 (.int .i64 (.ofNat 64)) fun t64 =>
j35 t64 h31) (j35 (.tup []) h31)) fun j32 =>
K.guK true t26 (K.ldK ctx 3 t27 h28 fun t65 =>
j32 t65 h28) (j32 (.tup []) h28)) fun j29 =>
K.guK true t26 (K.fldK 1 t2 fun t66 =>
j29 t66 h24) (j29 (.tup []) h24)) fun j25 =>
K.guK true t16 (K.geK (K.binV ctx .geq 3 true t20 (.int .i64 (.ofNat 2))) t20 (.int .i64 (.ofNat 2)) fun t67 =>
j25 t67 h21) (j25 (.tup []) h21)) fun j22 =>
K.guK true t16 (K.ldK ctx 3 t17 h18 fun t68 =>
j22 t68 h18) (j22 (.tup []) h18)) fun j19 =>
K.guK true t16 (K.fldK 1 t2 fun t69 =>
j19 t69 h14) (j19 (.tup []) h14)) fun j15 =>
K.guK true t6 (K.leK (K.binV ctx .leq 3 true t10 (.int .i64 (.ofNat 4))) t10 (.int .i64 (.ofNat 4)) fun t70 =>
j15 t70 h11) (j15 (.tup []) h11)) fun j12 =>
K.guK true t6 (K.ldK ctx 3 t7 h8 fun t71 =>
j12 t71 h8) (j12 (.tup []) h8)) fun j9 =>
K.guK true t6 (K.fldK 0 t2 fun t72 =>
j9 t72 h3) (j9 (.tup []) h3))
noncomputable def r30 : K.KRun → List AV → H → K.KR := fun run args h => K.uncons args fun t0 l1 => K.unnil l1 (
K.boxK t0 h fun t2 h3 =>
K.ldsK ctx 44 3 t2 h3 fun t4 =>
K.callFK run 29 [t4] h3 fun t5 h6 =>
K.notK t5 fun t7 =>
K.iteV t7 (
K.unmarkK [] h6 fun h8 => .ok (.int .i64 (.ofNat 0)) h8) (
K.ldsK ctx 44 3 t2 h6 fun t9 =>
K.fldK 1 t2 fun t10 =>
K.ldK ctx 3 t10 h6 fun t11 =>
K.mulK (K.binV ctx .mul 3 true (.int .i64 (.ofNat 16)) t11) (.int .i64 (.ofNat 16)) t11 fun t12 =>
K.fldK 2 t2 fun t13 =>
K.ldK ctx 3 t13 h6 fun t14 =>
K.mulK (K.binV ctx .mul 3 true (.int .i64 (.ofNat 8)) t14) (.int .i64 (.ofNat 8)) t14 fun t15 =>
K.callFK run 53 [t9] h6 fun t16 h17 =>
K.ldK ctx 3 t13 h17 fun t18 =>
K.req (AV.same t14 t18) (
K.ldK ctx 3 t10 h17 fun t19 =>
K.req (AV.same t11 t19) (
K.addK (K.binV ctx .add 3 true t16 (.int .i64 (.ofNat 16))) t16 (.int .i64 (.ofNat 16)) fun t20 =>
K.addK (K.binV ctx .add 3 false t20 t12) t20 t12 fun t21 =>
K.addK (K.binV ctx .add 3 false t21 t15) t21 t15 fun t22 =>
K.unmarkK [] h17 fun h23 => .ok t22 h23))))
noncomputable def r31 : K.KRun → List AV → H → K.KR := fun run args h => K.uncons args fun t0 l1 => K.unnil l1 (
K.boxK t0 h fun t2 h3 =>
K.ldsK ctx 44 3 t2 h3 fun t4 =>
K.callFK run 29 [t4] h3 fun t5 h6 =>
K.notK t5 fun t7 =>
K.iteV t7 (
K.unmarkK [] h6 fun h8 => .ok (.int .i64 (.negSucc 0)) h8) (
K.ldsK ctx 44 3 t2 h6 fun t9 =>
K.callFK run 53 [t9] h6 fun t10 h11 =>
K.unmarkK [] h11 fun h12 => .ok t10 h12))
noncomputable def r32 : K.KRun → List AV → H → K.KR := fun run args h => K.uncons args fun t0 l1 => K.unnil l1 (
K.boxK t0 h fun t2 h3 =>
K.ldsK ctx 44 3 t2 h3 fun t4 =>
K.callFK run 29 [t4] h3 fun t5 h6 =>
K.notK t5 fun t7 =>
K.iteV t7 (
K.unmarkK [] h6 fun h8 => .ok (.int .i64 (.negSucc 0)) h8) (
K.ldsK ctx 44 3 t2 h6 fun t9 =>
K.callFK run 53 [t9] h6 fun t10 h11 =>
K.addK (K.binV ctx .add 3 true t10 (.int .i64 (.ofNat 8))) t10 (.int .i64 (.ofNat 8)) fun t12 =>
K.unmarkK [] h11 fun h13 => .ok t12 h13))
noncomputable def r33 : K.KRun → List AV → H → K.KR := fun run args h => K.uncons args fun t0 l1 => K.uncons l1 fun t2 l3 => K.unnil l3 (
K.boxK t0 h fun t4 h5 =>
K.ldsK ctx 44 3 t4 h5 fun t6 =>
K.callFK run 29 [t6] h5 fun t7 h8 =>
K.notK t7 fun t9 =>
K.letK (fun (t10 : AV) (h11 : H) => K.letK (fun (t13 : AV) (h14 : H) => K.pickK t9 (.bool true) t13 fun t16 =>
K.letK (fun (t17 : AV) (h18 : H) => K.letK (fun (t20 : AV) (h21 : H) => K.letK (fun (t23 : AV) (h24 : H) => K.letK (fun (t26 : AV) (h27 : H) => K.pickK t16 (.bool true) t26 fun t29 =>
K.iteV t29 (
K.unmarkK [] h27 fun h30 => .ok (.int .i64 (.negSucc 0)) h30) (
K.ldsK ctx 44 3 t4 h27 fun t31 =>
K.callFK run 53 [t31] h27 fun t32 h33 =>
K.addK (K.binV ctx .add 3 true t32 (.int .i64 (.ofNat 16))) t32 (.int .i64 (.ofNat 16)) fun t34 =>
K.mulK (K.binV ctx .mul 3 true (.int .i64 (.ofNat 16)) t2) (.int .i64 (.ofNat 16)) t2 fun t35 =>
K.addK (K.binV ctx .add 3 false t34 t35) t34 t35 fun t36 =>
K.unmarkK [] h33 fun h37 => .ok t36 h37)) fun j28 =>
K.guK false t16 (K.geK (K.binV ctx .geq 3 false t17 t23) t17 t23 fun t38 =>
j28 t38 h24) (j28 (.tup []) h24)) fun j25 =>
K.guK false t16 (K.ldK ctx 3 t20 h21 fun t39 =>
j25 t39 h21) (j25 (.tup []) h21)) fun j22 =>
K.guK false t16 (K.fldK 1 t4 fun t40 =>
j22 t40 h18) (j22 (.tup []) h18)) fun j19 =>
K.guK false t16 (j19 t2 h14) (j19 (.tup []) h14)) fun j15 =>
K.guK false t9 (K.ltK (K.binV ctx .lss 3 true t10 (.int .i64 (.ofNat 0))) t10 (.int .i64 (.ofNat 0)) fun t41 =>
j15 t41 h11) (j15 (.tup []) h11)) fun j12 =>
K.guK false t9 (j12 t2 h8) (j12 (.tup []) h8))
noncomputable def r34 : K.KRun → List AV → H → K.KR := fun run args h => K.uncons args fun t0 l1 => K.uncons l1 fun t2 l3 => K.unnil l3 (
K.nilK t0 fun t4 =>
K.fldK 3 t4 fun t5 =>
K.ldK ctx 75 t5 h fun t6 =>
K.lenVK t6 fun t7 =>
K.eqK (K.binV ctx .eql 3 true t7 (.int .i64 (.ofNat 0))) t7 (.int .i64 (.ofNat 0)) fun t8 =>
K.iteV t8 (
K.unmarkK [] h fun h9 => .ok (.int .i64 (.ofNat 6)) h9) (
K.nilK t0 fun t10 =>
K.fldK 3 t10 fun t11 =>
K.ldK ctx 75 t11 h fun t12 =>
K.idxSK 13 t12 (.int .i64 (.ofNat 0)) fun t13 =>
K.ldsK ctx 88 13 t13 h fun t14 =>
K.nilK t0 fun t15 =>
K.fldK 3 t15 fun t16 =>
K.ldK ctx 75 t16 h fun t17 =>
K.lenVK t17 fun t18 =>
K.allocK (K.zN ctx 88) (K.zT ctx 88) h fun t19 h20 =>
K.stsK 13 t19 t14 h20 fun h21 =>
K.ldK ctx 75 t16 h21 fun t22 =>
K.req (AV.same t17 t22) (
K.nilK t0 fun t23 =>
K.fldK 1 t23 fun t24 =>
K.ldK ctx 77 t24 h21 fun t25 =>
K.idxSK 1 t25 t2 fun t26 =>
K.ldK ctx 80 t26 h21 fun t27 =>
K.fldK 1 t19 fun t28 =>
K.ldsK ctx 54 12 t28 h21 fun t29 =>
K.callFK run 54 [t27, t29] h21 fun t30 h31 =>
K.neK (K.binV ctx .neq 35 true t30 (.int .i64 (.ofNat 0))) t30 (.int .i64 (.ofNat 0)) fun t32 =>
K.iteV t32 (
K.unmarkK [] h31 fun h33 => .ok t30 h33) (
K.nilK t0 fun t34 =>
K.fldK 2 t34 fun t35 =>
K.ldK ctx 75 t35 h31 fun t36 =>
K.nilK t0 fun t37 =>
K.fldK 3 t37 fun t38 =>
K.ldK ctx 75 t38 h31 fun t39 =>
K.slcK ctx 75 t39 (some (.int .i64 (.ofNat 1))) (some t18) (some t18) h31 fun t40 =>
K.ldsK ctx 88 13 t19 h31 fun t41 =>
K.nilK t0 fun t42 =>
K.fldK 3 t42 fun t43 =>
K.stK t43 t40 h31 fun h44 =>
K.ldsK ctx 88 13 t19 h44 fun t45 =>
K.req (AV.same t41 t45) (
K.idxSK 13 t36 t2 fun t46 =>
K.stsK 13 t46 t41 h44 fun h47 =>
K.unmarkK [] h47 fun h48 => .ok (.int .i64 (.ofNat 0)) h48)))))
noncomputable def r35 : K.KRun → List AV → H → K.KR := fun run args h => K.uncons args fun t0 l1 => K.unnil l1 (
K.eqK (K.binV ctx .eql 80 true t0 .nilPtr) t0 .nilPtr fun t2 =>
K.iteV t2 (
K.unmarkK [] h fun h3 => .ok (.tup [(.int .u8 (.ofNat 0)), (.int .i64 (.ofNat 2))]) h3) (
K.nilK t0 fun t4 =>
K.fldK 16 t4 fun t5 =>
K.ldK ctx 122 t5 h fun t6 =>
K.eqK (K.binV ctx .eql 122 true t6 .nilFunc) t6 .nilFunc fun t7 =>
K.iteV t7 (
K.unmarkK [] h fun h8 => .ok (.tup [(.int .u8 (.ofNat 0)), (.int .i64 (.ofNat 3))]) h8) (
K.nilK t0 fun t9 =>
K.fldK 1 t9 fun t10 =>
K.ldK ctx 72 t10 h fun t11 =>
K.nilK t0 fun t12 =>
K.fldK 2 t12 fun t13 =>
K.ldK ctx 3 t13 h fun t14 =>
K.callFK run 55 [t11, t14] h fun t15 h16 =>
K.extK t15 0 fun t17 =>
K.extK t15 1 fun t18 =>
K.iteV t18 (
K.unmarkK [] h16 fun h19 => .ok (.tup [(.int .u8 (.ofNat 2)), (.int .i64 (.ofNat 0))]) h19) (
K.nilK t0 fun t20 =>
K.fldK 16 t20 fun t21 =>
K.ldK ctx 122 t21 h16 fun t22 =>
K.callVK run t22 [] h16 fun t23 h24 =>
K.unmarkK [] h24 fun h25 => .ok (.tup [t23, (.int .i64 (.ofNat 0))]) h25))))
noncomputable def r36 : K.KRun → List AV → H → K.KR := fun run args h => K.uncons args fun t0 l1 => K.unnil l1 (
K.allocK (K.zN ctx 61) (K.zT ctx 61) h fun t2 h3 =>
K.eqK (K.binV ctx .eql 80 true t0 .nilPtr) t0 .nilPtr fun t4 =>
K.letK (fun (t5 : AV) (h6 : H) => K.letK (fun (t8 : AV) (h9 : H) => K.letK (fun (t11 : AV) (h12 : H) => K.letK (fun (t14 : AV) (h15 : H) => K.letK (fun (t17 : AV) (h18 : H) => K.pickK t4 (.bool true) t17 fun t20 =>
K.iteV t20 (
K.bldSK ctx 61 [] fun t21 =>
K.stsK 7 t2 t21 h18 fun h22 =>
K.unmarkK [] h22 fun h23 => K.asPtr t2 fun n24 n25 => K.loads h23 n24 n25 7 fun t26 => .ok (.tup [(.agg t26), (.bool false)]) h23) (
K.nilK t0 fun t27 =>
K.fldK 24 t27 fun t28 =>
K.stK t28 (.bool false) h18 fun h29 =>
K.nilK t0 fun t30 =>
K.fldK 17 t30 fun t31 =>
K.ldsK ctx 61 7 t31 h29 fun t32 =>
K.stsK 7 t2 t32 h29 fun h33 =>
K.unmarkK [] h33 fun h34 => K.asPtr t2 fun n35 n36 => K.loads h34 n35 n36 7 fun t37 => .ok (.tup [(.agg t37), (.bool true)]) h34)) fun j19 =>
K.guK false t4 (K.notK t14 fun t38 =>
j19 t38 h15) (j19 (.tup []) h15)) fun j16 =>
K.guK false t4 (K.ldK ctx 4 t11 h12 fun t39 =>
j16 t39 h12) (j16 (.tup []) h12)) fun j13 =>
K.guK false t4 (K.fldK 24 t8 fun t40 =>
j13 t40 h9) (j13 (.tup []) h9)) fun j10 =>
K.guK false t4 (K.nilK t5 fun t41 =>
j10 t41 h6) (j10 (.tup []) h6)) fun j7 =>
K.guK false t4 (j7 t0 h3) (j7 (.tup []) h3))
noncomputable def r37 : K.KRun → List AV → H → K.KR := fun run args h => K.uncons args fun t0 l1 => K.uncons l1 fun t2 l3 => K.unnil l3 (
K.boxK t2 h fun t4 h5 =>
K.ldsK ctx 54 12 t4 h5 fun t6 =>
K.callFK run 56 [t6] h5 fun t7 h8 =>
K.notK t7 fun t9 =>
K.iteV t9 (
K.unmarkK [] h8 fun h10 => .ok (.tup [.nilSlice, (.int .i64 (.ofNat 1))]) h10) (
K.callFK run 7 [t0] h8 fun t11 h12 =>
K.extK t11 0 fun t13 =>
K.extK t11 1 fun t14 =>
K.allocK (K.zN ctx 26) (K.zT ctx 26) h12 fun t15 h16 =>
K.stsK 3 t15 t13 h16 fun h17 =>
K.notK t14 fun t18 =>
K.iteV t18 (
K.unmarkK [] h17 fun h19 => .ok (.tup [.nilSlice, (.int .i64 (.ofNat 4))]) h19) (
K.ldsK ctx 54 12 t4 h17 fun t20 =>
K.callFK run 57 [t0, t20] h17 fun t21 h22 =>
K.unmarkK [] h22 fun h23 => .ok (.tup [t21, (.int .i64 (.ofNat 0))]) h23)))
noncomputable def r38 : K.KRun → List AV → H → K.KR := fun run args h => K.uncons args fun t0 l1 => K.uncons l1 fun t2 l3 => K.unnil l3 (
K.boxK t2 h fun t4 h5 =>
K.nilK t0 fun t6 =>
K.fldK 3 t6 fun t7 =>
K.ldK ctx 75 t7 h5 fun t8 =>
K.nilK t0 fun t9 =>
K.fldK 2 t9 fun t10 =>
K.ldK ctx 75 t10 h5 fun t11 =>
K.bslK ctx 75 1 2 [(0, t8), (1, t11)] h5 fun t12 h13 =>
K.callFK run 59 [t12] h13 fun t14 h15 =>
K.callFK run 58 [t14, (.func (.func 60) [] [t4])] h15 fun t16 h17 =>
K.unmarkK [] h17 fun h18 => .ok t16 h18)
noncomputable def r39 : K.KRun → List AV → H → K.KR := fun run args h => K.uncons args fun t0 l1 => K.uncons l1 fun t2 l3 => K.unnil l3 (
K.boxK t0 h fun t4 h5 =>
K.fldK 1 t4 fun t6 =>
K.fldK 1 t6 fun t7 =>
K.ldK ctx 3 t7 h5 fun t8 =>
K.ldK ctx 3 t2 h5 fun t9 =>
K.eqK (K.binV ctx .eql 3 false t8 t9) t8 t9 fun t10 =>
K.unmarkK [] h5 fun h11 => .ok t10 h11)
noncomputable def r40 : K.KRun → List AV → H → K.KR := fun run args h => K.uncons args fun t0 l1 => K.uncons l1 fun t2 l3 => K.uncons l3 fun t4 l5 => K.uncons l5 fun t6 l7 => K.unnil l7 (
K.allocK (K.zN ctx 57) (K.zT ctx 57) h fun t8 h9 =>
K.bldSK ctx 57 [] fun t10 =>
K.allocK (K.zN ctx 57) (K.zT ctx 57) h9 fun t11 h12 =>
K.stsK 4 t11 t10 h12 fun h13 =>
K.callFK run 61 [t0, t6, (.int .u64 (.ofNat 1))] h13 fun t14 h15 =>
K.neK (K.binV ctx .neq 35 true t14 (.int .i64 (.ofNat 0))) t14 (.int .i64 (.ofNat 0)) fun t16 =>
K.iteV t16 (
K.ldsK ctx 57 4 t11 h15 fun t17 =>
K.stsK 4 t8 t17 h15 fun h18 =>
K.unmarkK [] h18 fun h19 => K.asPtr t8 fun n20 n21 => K.loads h19 n20 n21 4 fun t22 => .ok (.tup [(.int .u8 (.ofNat 0)), (.agg t22), t14]) h19) (
K.callFK run 62 [t0, t2, t4] h15 fun t23 h24 =>
K.extK t23 0 fun t25 =>
K.extK t23 1 fun t26 =>
K.allocK (K.zN ctx 143) (K.zT ctx 143) h24 fun t27 h28 =>
K.stsK 3 t27 t25 h28 fun h29 =>
K.neK (K.binV ctx .neq 35 true t26 (.int .i64 (.ofNat 0))) t26 (.int .i64 (.ofNat 0)) fun t30 =>
K.iteV t30 (
K.ldsK ctx 57 4 t11 h29 fun t31 =>
K.stsK 4 t8 t31 h29 fun h32 =>
K.unmarkK [] h32 fun h33 => K.asPtr t8 fun n34 n35 => K.loads h33 n34 n35 4 fun t36 => .ok (.tup [(.int .u8 (.ofNat 0)), (.agg t36), t26]) h33) (
K.fldK 2 t27 fun t37 =>
K.ldK ctx 23 t37 h29 fun t38 =>
K.leK (K.binV ctx .leq 23 false t6 t38) t6 t38 fun t39 =>
K.iteV t39 (
K.ldsK ctx 57 4 t11 h29 fun t40 =>
K.stsK 4 t8 t40 h29 fun h41 =>
K.unmarkK [] h41 fun h42 => K.asPtr t8 fun n43 n44 => K.loads h42 n43 n44 4 fun t45 => .ok (.tup [(.int .u8 (.ofNat 2)), (.agg t45), (.int .i64 (.ofNat 0))]) h42) (
K.fldK 2 t27 fun t46 =>
K.ldK ctx 23 t46 h29 fun t47 =>
K.subK (K.binV ctx .sub 23 false t6 t47) t6 t47 fun t48 =>
K.gtK (K.binV ctx .gtr 23 true t48 (.int .u64 (.ofNat 4))) t48 (.int .u64 (.ofNat 4)) fun t49 =>
K.iteV t49 (
K.ldsK ctx 57 4 t11 h29 fun t50 =>
K.stsK 4 t8 t50 h29 fun h51 =>
K.unmarkK [] h51 fun h52 => K.asPtr t8 fun n53 n54 => K.loads h52 n53 n54 4 fun t55 => .ok (.tup [(.int .u8 (.ofNat 3)), (.agg t55), (.int .i64 (.ofNat 0))]) h52) (
K.oK (K.binV ctx .rem 23 true t6 (.int .u64 (.ofNat 4))) fun t56 =>
K.rK (convA ctx 23 3 t56 h29) fun t57 h58 =>
K.callFK run 63 [t0, t2, t57] h58 fun t59 h60 =>
K.extK t59 0 fun t61 =>
K.extK t59 1 fun t62 =>
K.extK t59 2 fun t63 =>
K.allocK (K.zN ctx 57) (K.zT ctx 57) h60 fun t64 h65 =>
K.stsK 4 t64 t62 h65 fun h66 =>
K.neK (K.binV ctx .neq 35 true t63 (.int .i64 (.ofNat 0))) t63 (.int .i64 (.ofNat 0)) fun t67 =>
K.letK (fun (t68 : AV) (h69 : H) => K.letK (fun (t71 : AV) (h72 : H) => K.letK (fun (t74 : AV) (h75 : H) => K.pickK t67 (.bool true) t74 fun t77 =>
K.iteV t77 (
K.ldsK ctx 57 4 t11 h75 fun t78 =>
K.stsK 4 t8 t78 h75 fun h79 =>
K.unmarkK [] h79 fun h80 => K.asPtr t8 fun n81 n82 => K.loads h80 n81 n82 4 fun t83 => .ok (.tup [(.int .u8 (.ofNat 0)), (.agg t83), t63]) h80) (
K.ldsK ctx 57 4 t64 h75 fun t84 =>
K.stsK 4 t8 t84 h75 fun h85 =>
K.unmarkK [] h85 fun h86 => K.asPtr t8 fun n87 n88 => K.loads h86 n87 n88 4 fun t89 => .ok (.tup [(.int .u8 (.ofNat 1)), (.agg t89), (.int .i64 (.ofNat 0))]) h86)) fun j76 =>
K.guK false t67 (K.neK (K.binV ctx .neq 23 false t68 t71) t68 t71 fun t90 =>
j76 t90 h72) (j76 (.tup []) h72)) fun j73 =>
K.guK false t67 (j73 t6 h69) (j73 (.tup []) h69)) fun j70 =>
K.guK false t67 (j70 t61 h66) (j70 (.tup []) h66))))))
noncomputable def r41 : K.KRun → List AV → H → K.KR := fun run args h => K.uncons args fun t0 l1 => K.unnil l1 (
K.callFK run 64 [t0] h fun t2 h3 =>
K.slowK ctx run (K.opAt Go.Proofs.Tryz.f41 1 2) [] [] h3 fun t4 h5 =>
K.bldSK ctx 151 [(0, t2), (1, t4)] fun t6 =>
K.boxK t6 h5 fun t7 h8 =>
K.unmarkK [] h8 fun h9 => .ok t7 h9)
noncomputable def r43 : K.KRun → List AV → H → K.KR := fun run args h => K.uncons args fun t0 l1 => K.uncons l1 fun t2 l3 => K.unnil l3 (
K.allocK (K.zN ctx 26) (K.zT ctx 26) h fun t4 h5 =>
K.rK (convA ctx 5 3 t0 h5) fun t6 h7 =>
K.oK (K.binV ctx .rem 3 true t6 (.int .i64 (.ofNat 20))) fun t8 =>
K.addK (K.binV ctx .add 3 true (.int .i64 (.ofNat 2)) t8) (.int .i64 (.ofNat 2)) t8 fun t9 =>
K.rK (convA ctx 5 3 t2 h7) fun t10 h11 =>
K.oK (K.binV ctx .rem 3 true t10 (.int .i64 (.ofNat 60))) fun t12 =>
K.addK (K.binV ctx .add 3 true (.int .i64 (.ofNat 2)) t12) (.int .i64 (.ofNat 2)) t12 fun t13 =>
K.bldSK ctx 26 [(0, (.int .i64 (.ofNat 1))), (1, t9), (2, t13)] fun t14 =>
K.stsK 3 t4 t14 h11 fun h15 =>
K.unmarkK [] h15 fun h16 => K.asPtr t4 fun n17 n18 => K.loads h16 n17 n18 3 fun t19 => .ok (.agg t19) h16)
noncomputable def r44 : K.KRun → List AV → H → K.KR := fun run args h => K.uncons args fun t0 l1 => K.uncons l1 fun t2 l3 => K.uncons l3 fun t4 l5 => K.unnil l5 (
K.geK (K.binV ctx .geq 3 false t0 t2) t0 t2 fun t6 =>
K.letK (fun (t7 : AV) (h8 : H) => K.letK (fun (t10 : AV) (h11 : H) => K.letK (fun (t13 : AV) (h14 : H) => K.pickK t6 t13 (.bool false) fun t16 =>
K.unmarkK [] h14 fun h17 => .ok t16 h17) fun j15 =>
K.guK true t6 (K.leK (K.binV ctx .leq 3 false t7 t10) t7 t10 fun t18 =>
j15 t18 h11) (j15 (.tup []) h11)) fun j12 =>
K.guK true t6 (j12 t4 h8) (j12 (.tup []) h8)) fun j9 =>
K.guK true t6 (j9 t0 h) (j9 (.tup []) h))
noncomputable def r45 : K.KRun → List AV → H → K.KR := fun run args h => K.uncons args fun t0 l1 => K.unnil l1 (
K.boxK t0 h fun t2 h3 =>
K.allocK (K.zN ctx 106) (K.zT ctx 106) h3 fun t4 h5 =>
K.bldSK ctx 105 [(0, (.int .u8 (.ofNat 1))), (1, (.int .i64 (.ofNat 8))), (2, (.int .i64 (.ofNat 1)))] fun t6 =>
K.bldSK ctx 105 [(0, (.int .u8 (.ofNat 2))), (1, (.int .i64 (.ofNat 64))), (2, (.int .i64 (.ofNat 4)))] fun t7 =>
K.fldK 0 t2 fun t8 =>
K.ldK ctx 3 t8 h5 fun t9 =>
K.bldSK ctx 105 [(0, (.int .u8 (.ofNat 5))), (1, (.int .i64 (.ofNat 208))), (2, t9)] fun t10 =>
K.bldSK ctx 105 [(0, (.int .u8 (.ofNat 6))), (1, (.int .i64 (.ofNat 8))), (2, (.int .i64 (.ofNat 1)))] fun t11 =>
K.bldSK ctx 105 [(0, (.int .u8 (.ofNat 7))), (1, (.int .i64 (.ofNat 8))), (2, (.int .i64 (.ofNat 1)))] fun t12 =>
K.fldK 1 t2 fun t13 =>
K.ldK ctx 3 t13 h5 fun t14 =>
K.bldSK ctx 105 [(0, (.int .u8 (.ofNat 8))), (1, (.int .i64 (.ofNat 16))), (2, t14)] fun t15 =>
K.fldK 2 t2 fun t16 =>
K.ldK ctx 3 t16 h5 fun t17 =>
K.bldSK ctx 105 [(0, (.int .u8 (.ofNat 9))), (1, (.int .i64 (.ofNat 8))), (2, t17)] fun t18 =>
K.bldAK ctx 106 3 [(0, t6), (1, t7), (2, t10), (3, t11), (4, t12), (5, t15), (6, t18)] fun t19 =>
K.stsK 21 t4 t19 h5 fun h20 =>
K.unmarkK [] h20 fun h21 => K.asPtr t4 fun n22 n23 => K.loads h21 n22 n23 21 fun t24 => .ok (.agg t24) h21)
noncomputable def r46 : K.KRun → List AV → H → K.KR := fun run args h => K.uncons args fun t0 l1 => K.uncons l1 fun t2 l3 => K.unnil l3 (
K.letK (fun (l4 : List AV) (m5 : List Nat) (h6 : H) => K.uncons l4 fun t8 l9 => K.unnil l9 (
K.unmarkK m5 h6 fun h10 => .ok t8 h10)) fun j7 =>
K.neK (K.binV ctx .neq 38 true t0 .nilPtr) t0 .nilPtr fun t11 =>
K.iteV t11 (
K.nilK t0 fun t12 =>
K.fldK 0 t12 fun t13 =>
K.ldK ctx 125 t13 h fun t14 =>
K.lenVK t14 fun t15 =>
K.loopV (nat_lit 1000000) (fun s19 l16 m17 h18 => K.uncons l16 fun t20 l21 => K.uncons l21 fun t22 l23 => K.uncons l23 fun t24 l25 => K.uncons l25 fun t26 l27 => K.uncons l27 fun t28 l29 => K.unnil l29 (
K.ltK (K.binV ctx .lss 3 false t28 t26) t28 t26 fun t30 =>
K.iteV t30 (
K.idxSK 6 t24 t28 fun t31 =>
K.ldsK ctx 112 6 t31 h18 fun t32 =>
K.allocK (K.zN ctx 112) (K.zT ctx 112) h18 fun t33 h34 =>
K.stsK 6 t33 t32 h34 fun h35 =>
K.ldsK ctx 112 6 t33 h35 fun t36 =>
K.callVK run t20 [t36] h35 fun t37 h38 =>
K.bslK ctx 23 1 1 [(0, t37)] h38 fun t39 h40 =>
K.appK ctx 23 1 t22 t39 h40 fun t41 h42 =>
K.addK (K.binV ctx .add 3 true t28 (.int .i64 (.ofNat 1))) t28 (.int .i64 (.ofNat 1)) fun t43 =>
s19 [t20, t41, t24, t26, t43] m17 h42) (
j7 [t22] m17 h18))) [t2, .nilSlice, t14, t15, (.int .i64 (.ofNat 0))] [] h) (
j7 [.nilSlice] [] h))
noncomputable def r47 : K.KRun → List AV → H → K.KR := fun run args h => K.uncons args fun t0 l1 => K.unnil l1 (
K.boxK t0 h fun t2 h3 =>
K.fldK 1 t2 fun t4 =>
K.ldK ctx 23 t4 h3 fun t5 =>
K.unmarkK [] h3 fun h6 => .ok t5 h6)
noncomputable def r48 : K.KRun → List AV → H → K.KR := fun run args h => K.uncons args fun t0 l1 => K.uncons l1 fun t2 l3 => K.uncons l3 fun t4 l5 => K.unnil l5 (
K.boxK t2 h fun t6 h7 =>
K.ldsK ctx 26 3 t6 h7 fun t8 =>
K.callFK run 8 [t8, t4] h7 fun t9 h10 =>
K.eqK (K.binV ctx .eql 38 true t0 .nilPtr) t0 .nilPtr fun t11 =>
K.iteV t11 (
K.unmarkK [] h10 fun h12 => .ok (.tup [.nilPtr, (.int .i64 (.ofNat 2))]) h12) (
K.ltK (K.binV ctx .lss 3 true t9 (.int .i64 (.ofNat 0))) t9 (.int .i64 (.ofNat 0)) fun t13 =>
K.iteV t13 (
K.unmarkK [] h10 fun h14 => .ok (.tup [.nilPtr, (.int .i64 (.ofNat 1))]) h14) (
K.ldsK ctx 26 3 t6 h10 fun t15 =>
K.callFK run 65 [t0] h10 fun t16 h17 =>
K.ldsK ctx 26 3 t6 h17 fun t18 =>
K.req (AV.same t15 t18) (
K.callFK run 21 [t15] h17 fun t19 h20 =>
K.ltK (K.binV ctx .lss 3 false t16 t19) t16 t19 fun t21 =>
K.iteV t21 (
K.unmarkK [] h20 fun h22 => .ok (.tup [.nilPtr, (.int .i64 (.ofNat 8))]) h22) (
K.ldsK ctx 26 3 t6 h20 fun t23 =>
K.bldSK ctx 154 [(0, t0), (1, t23), (2, t9)] fun t24 =>
K.boxK t24 h20 fun t25 h26 =>
K.unmarkK [] h26 fun h27 => .ok (.tup [t25, (.int .i64 (.ofNat 0))]) h27)))))
noncomputable def r49 : K.KRun → List AV → H → K.KR := fun run args h => K.uncons args fun t0 l1 => K.uncons l1 fun t2 l3 => K.unnil l3 (
K.eqK (K.binV ctx .eql 38 true t0 .nilPtr) t0 .nilPtr fun t4 =>
K.iteV t4 (
K.unmarkK [] h fun h5 => .ok (.tup [.nilPtr, (.int .i64 (.ofNat 2))]) h5) (
K.letK (fun (l6 : List AV) (m7 : List Nat) (h8 : H) => K.uncons l6 fun t10 l11 => K.uncons l11 fun t12 l13 => K.uncons l13 fun t14 l15 => K.unnil l15 (
K.iteV t14 (
K.unmarkK m7 h8 fun h16 => .ok (.tup [.nilPtr, (.int .i64 (.ofNat 8))]) h16) (
K.nilK t10 fun t17 =>
K.fldK 0 t17 fun t18 =>
K.ldK ctx 125 t18 h8 fun t19 =>
K.idxSK 6 t19 t12 fun t20 =>
K.unmarkK m7 h8 fun h21 => .ok (.tup [t20, (.int .i64 (.ofNat 0))]) h21))) fun j9 =>
K.ltK (K.binV ctx .lss 3 true t2 (.int .i64 (.ofNat 0))) t2 (.int .i64 (.ofNat 0)) fun t22 =>
K.iteV t22 (
j9 [t0, t2, t22] [] h) (
K.nilK t0 fun t23 =>
K.fldK 0 t23 fun t24 =>
K.ldK ctx 125 t24 h fun t25 =>
K.lenVK t25 fun t26 =>
K.geK (K.binV ctx .geq 3 false t2 t26) t2 t26 fun t27 =>
j9 [t0, t2, t27] [] h)))
noncomputable def r50 : K.KRun → List AV → H → K.KR := fun run args h => K.uncons args fun t0 l1 => K.uncons l1 fun t2 l3 => K.uncons l3 fun t4 l5 => K.unnil l5 (
K.boxK t4 h fun t6 h7 =>
K.eqK (K.binV ctx .eql 38 true t0 .nilPtr) t0 .nilPtr fun t8 =>
K.iteV t8 (
K.unmarkK [] h7 fun h9 => .ok (.int .i64 (.ofNat 2)) h9) (
K.letK (fun (l10 : List AV) (m11 : List Nat) (h12 : H) => K.uncons l10 fun t14 l15 => K.uncons l15 fun t16 l17 => K.uncons l17 fun t18 l19 => K.uncons l19 fun t20 l21 => K.unnil l21 (
K.iteV t20 (
K.unmarkK m11 h12 fun h22 => .ok (.int .i64 (.ofNat 8)) h22) (
K.letK (fun (l23 : List AV) (m24 : List Nat) (h25 : H) => K.unnil l23 (
K.unmarkK m24 h25 fun h27 => .ok (.int .i64 (.ofNat 0)) h27)) fun j26 =>
K.nilK t14 fun t28 =>
K.fldK 0 t28 fun t29 =>
K.ldK ctx 125 t29 h12 fun t30 =>
K.mulK (K.binV ctx .mul 3 true t16 (.int .i64 (.ofNat 8))) t16 (.int .i64 (.ofNat 8)) fun t31 =>
K.addK (K.binV ctx .add 3 true t16 (.int .i64 (.ofNat 1))) t16 (.int .i64 (.ofNat 1)) fun t32 =>
K.mulK (K.binV ctx .mul 3 true t32 (.int .i64 (.ofNat 8))) t32 (.int .i64 (.ofNat 8)) fun t33 =>
K.slcK ctx 125 t30 (some t31) (some t33) none h12 fun t34 =>
K.callFK run 66 [t34] h12 fun t35 h36 =>
K.hNew h36 .marks fun r37 h38 => K.hNew h38 (.loop .ready none (K.mkT [5, 32] [t18, t35]) 1 r37) fun n39 h40 =>
K.rngK ctx run t35 n39 h40 (fun h42 => j26 [] (r37 :: m11) h42) (fun h43 => K.unmarkK (r37 :: m11) h43 fun h46 => .bad) fun i41 h44 => (Bool.rec (motive := fun _ => K.KR) (.bad) (j26 [] (r37 :: m11) h44) (Nat.beq i41 1))))) fun j13 =>
K.ltK (K.binV ctx .lss 3 true t2 (.int .i64 (.ofNat 0))) t2 (.int .i64 (.ofNat 0)) fun t47 =>
K.iteV t47 (
j13 [t0, t2, t6, t47] [] h7) (
K.nilK t0 fun t48 =>
K.fldK 0 t48 fun t49 =>
K.ldK ctx 125 t49 h7 fun t50 =>
K.lenVK t50 fun t51 =>
K.oK (K.binV ctx .quo 3 true t51 (.int .i64 (.ofNat 8))) fun t52 =>
K.geK (K.binV ctx .geq 3 false t2 t52) t2 t52 fun t53 =>
j13 [t0, t2, t6, t53] [] h7)))
noncomputable def r51 : K.KRun → List AV → H → K.KR := fun run args h => K.uncons args fun t0 l1 => K.unnil l1 (
K.nilK t0 fun t2 =>
K.fldK 1 t2 fun t3 =>
K.ldK ctx 23 t3 h fun t4 =>
K.callFK run 52 [t0, t4] h fun t5 h6 =>
K.unmarkK [] h6 fun h7 => .ok (.tup []) h7)
noncomputable def r52 : K.KRun → List AV → H → K.KR := fun run args h => K.uncons args fun t0 l1 => K.uncons l1 fun t2 l3 => K.unnil l3 (
K.bldSK ctx 110 [] fun t4 =>
K.nilK t0 fun t5 =>
K.fldK 0 t5 fun t6 =>
K.stK t6 t2 h fun h7 =>
K.nilK t0 fun t8 =>
K.fldK 2 t8 fun t9 =>
K.stsK 4 t9 t4 h7 fun h10 =>
K.unmarkK [] h10 fun h11 => .ok (.tup []) h11)
noncomputable def r53 : K.KRun → List AV → H → K.KR := fun run args h => K.uncons args fun t0 l1 => K.unnil l1 (
K.boxK t0 h fun t2 h3 =>
K.fldK 0 t2 fun t4 =>
K.ldK ctx 3 t4 h3 fun t5 =>
K.mulK (K.binV ctx .mul 3 true (.int .i64 (.ofNat 208)) t5) (.int .i64 (.ofNat 208)) t5 fun t6 =>
K.callFK run 67 [] h3 fun t7 h8 =>
K.ldK ctx 3 t4 h8 fun t9 =>
K.req (AV.same t5 t9) (
K.addK (K.binV ctx .add 3 false t7 t6) t7 t6 fun t10 =>
K.unmarkK [] h8 fun h11 => .ok t10 h11))
noncomputable def r54 : K.KRun → List AV → H → K.KR := fun run args h => K.uncons args fun t0 l1 => K.uncons l1 fun t2 l3 => K.unnil l3 (
K.boxK t2 h fun t4 h5 =>
K.eqK (K.binV ctx .eql 80 true t0 .nilPtr) t0 .nilPtr fun t6 =>
K.iteV t6 (
K.unmarkK [] h5 fun h7 => .ok (.int .i64 (.ofNat 2)) h7) (
K.ldsK ctx 54 12 t4 h5 fun t8 =>
K.callFK run 56 [t8] h5 fun t9 h10 =>
K.notK t9 fun t11 =>
K.iteV t11 (
K.unmarkK [] h10 fun h12 => .ok (.int .i64 (.ofNat 1)) h12) (
K.letK (fun (l13 : List AV) (m14 : List Nat) (h15 : H) => K.uncons l13 fun t17 l18 => K.uncons l18 fun t19 l20 => K.uncons l20 fun t21 l22 => K.unnil l22 (
K.iteV t21 (
K.unmarkK m14 h15 fun h23 => .ok (.int .i64 (.ofNat 3)) h23) (
K.ldsK ctx 54 12 t19 h15 fun t24 =>
K.nilK t17 fun t25 =>
K.fldK 4 t25 fun t26 =>
K.stsK 12 t26 t24 h15 fun h27 =>
K.nilK t17 fun t28 =>
K.fldK 16 t28 fun t29 =>
K.stK t29 (.func (.func 68) [t17] []) h27 fun h30 =>
K.unmarkK m14 h30 fun h31 => .ok (.int .i64 (.ofNat 0)) h31))) fun j16 =>
K.nilK t0 fun t32 =>
K.fldK 16 t32 fun t33 =>
K.ldK ctx 122 t33 h10 fun t34 =>
K.neK (K.binV ctx .neq 122 true t34 .nilFunc) t34 .nilFunc fun t35 =>
K.iteV t35 (
j16 [t0, t4, t35] [] h10) (
K.nilK t0 fun t36 =>
K.fldK 24 t36 fun t37 =>
K.ldK ctx 4 t37 h10 fun t38 =>
j16 [t0, t4, t38] [] h10))))
noncomputable def r55 : K.KRun → List AV → H → K.KR := fun run args h => K.uncons args fun t0 l1 => K.uncons l1 fun t2 l3 => K.unnil l3 (
K.letK (fun (l4 : List AV) (m5 : List Nat) (h6 : H) => K.unnil l4 (
K.unmarkK m5 h6 fun h8 => .ok (.tup [(.int .i64 (.ofNat 0)), (.bool false)]) h8)) fun j7 =>
K.loopV (nat_lit 1000000) (fun s12 l9 m10 h11 => K.uncons l9 fun t13 l14 => K.uncons l14 fun t15 l16 => K.uncons l16 fun t17 l18 => K.unnil l18 (
K.ltK (K.binV ctx .lss 3 true t17 (.int .i64 (.ofNat 70))) t17 (.int .i64 (.ofNat 70)) fun t19 =>
K.iteV t19 (
K.callFK run 70 [t13, t17] h11 fun t20 h21 =>
K.callFK run 69 [t20, t15] h21 fun t22 h23 =>
K.iteV t22 (
K.unmarkK m10 h23 fun h24 => .ok (.tup [t17, (.bool true)]) h24) (
K.addK (K.binV ctx .add 3 true t17 (.int .i64 (.ofNat 1))) t17 (.int .i64 (.ofNat 1)) fun t25 =>
s12 [t13, t15, t25] m10 h23)) (
j7 [] m10 h11))) [t0, t2, (.int .i64 (.ofNat 0))] [] h)
noncomputable def r56 : K.KRun → List AV → H → K.KR := fun run args h => K.uncons args fun t0 l1 => K.unnil l1 (
K.boxK t0 h fun t2 h3 =>
K.fldK 0 t2 fun t4 =>
K.ldK ctx 50 t4 h3 fun t5 =>
K.geK (K.binV ctx .geq 50 true t5 (.int .u8 (.ofNat 1))) t5 (.int .u8 (.ofNat 1)) fun t6 =>
K.letK (fun (t7 : AV) (h8 : H) => K.letK (fun (t10 : AV) (h11 : H) => K.letK (fun (t13 : AV) (h14 : H) => K.pickK t6 t13 (.bool false) fun t16 =>
K.letK (fun (t17 : AV) (h18 : H) => K.letK (fun (t20 : AV) (h21 : H) => K.letK (fun (t23 : AV) (h24 : H) => K.pickK t16 t23 (.bool false) fun t26 =>
K.letK (fun (t27 : AV) (h28 : H) => K.letK (fun (t30 : AV) (h31 : H) => K.letK (fun (t33 : AV) (h34 : H) => K.pickK t26 t33 (.bool false) fun t36 =>
K.unmarkK [] h34 fun h37 => .ok t36 h37) fun j35 =>
K.guK true t26 (K.ltK (K.binV ctx .lss 3 true t30 (.int .i64 (.ofNat 4))) t30 (.int .i64 (.ofNat 4)) fun t38 =>
j35 t38 h31) (j35 (.tup []) h31)) fun j32 =>
K.guK true t26 (K.ldK ctx 3 t27 h28 fun t39 =>
j32 t39 h28) (j32 (.tup []) h28)) fun j29 =>
K.guK true t26 (K.fldK 1 t2 fun t40 =>
j29 t40 h24) (j29 (.tup []) h24)) fun j25 =>
K.guK true t16 (K.geK (K.binV ctx .geq 3 true t20 (.int .i64 (.ofNat 0))) t20 (.int .i64 (.ofNat 0)) fun t41 =>
j25 t41 h21) (j25 (.tup []) h21)) fun j22 =>
K.guK true t16 (K.ldK ctx 3 t17 h18 fun t42 =>
j22 t42 h18) (j22 (.tup []) h18)) fun j19 =>
K.guK true t16 (K.fldK 1 t2 fun t43 =>
j19 t43 h14) (j19 (.tup []) h14)) fun j15 =>
K.guK true t6 (K.leK (K.binV ctx .leq 50 true t10 (.int .u8 (.ofNat 4))) t10 (.int .u8 (.ofNat 4)) fun t44 =>
j15 t44 h11) (j15 (.tup []) h11)) fun j12 =>
K.guK true t6 (K.ldK ctx 50 t7 h8 fun t45 =>
j12 t45 h8) (j12 (.tup []) h8)) fun j9 =>
K.guK true t6 (K.fldK 0 t2 fun t46 =>
j9 t46 h3) (j9 (.tup []) h3))
noncomputable def r57 : K.KRun → List AV → H → K.KR := fun run args h => K.uncons args fun t0 l1 => K.uncons l1 fun t2 l3 => K.unnil l3 (
K.boxK t2 h fun t4 h5 =>
K.slowK ctx run (K.opAt Go.Proofs.Tryz.f57 1 0) [] [] h5 fun t6 h7 =>
K.fldK 1 t4 fun t8 =>
K.ldK ctx 3 t8 h7 fun t9 =>
K.callFK run 71 [t9] h7 fun t10 h11 =>
K.slowK ctx run (K.opAt Go.Proofs.Tryz.f57 1 4) [11, 14] [t6, t10] h11 fun t12 h13 =>
K.letK (fun (l14 : List AV) (m15 : List Nat) (h16 : H) => K.uncons l14 fun t18 l19 => K.unnil l19 (
K.callFK run 75 [t18] h16 fun t20 h21 =>
K.callFK run 74 [t20] h21 fun t22 h23 =>
K.unmarkK m15 h23 fun h24 => .ok t22 h24)) fun j17 =>
K.callFK run 7 [t0] h13 fun t25 h26 =>
K.extK t25 0 fun t27 =>
K.extK t25 1 fun t28 =>
K.allocK (K.zN ctx 26) (K.zT ctx 26) h26 fun t29 h30 =>
K.stsK 3 t29 t27 h30 fun h31 =>
K.iteV t28 (
K.ldsK ctx 26 3 t29 h31 fun t32 =>
K.fldK 1 t4 fun t33 =>
K.ldK ctx 3 t33 h31 fun t34 =>
K.ldsK ctx 54 12 t4 h31 fun t35 =>
K.callFK run 41 [t0] h31 fun t36 h37 =>
K.ldsK ctx 54 12 t4 h37 fun t38 =>
K.req (AV.same t35 t38) (
K.ldK ctx 3 t33 h37 fun t39 =>
K.req (AV.same t34 t39) (
K.ldsK ctx 26 3 t29 h37 fun t40 =>
K.req (AV.same t32 t40) (
K.bldSK ctx 164 [(0, t36), (1, t32), (2, t34)] fun t41 =>
K.callFK run 72 [t41, t35] h37 fun t42 h43 =>
K.allocK (K.zN ctx 162) (K.zT ctx 162) h43 fun t44 h45 =>
K.stsK 3 t44 t42 h45 fun h46 =>
K.letK (fun (l47 : List AV) (m48 : List Nat) (h49 : H) => K.uncons l47 fun t51 l52 => K.uncons l52 fun t53 l54 => K.unnil l54 (
K.letK (fun (l55 : List AV) (m56 : List Nat) (h57 : H) => K.uncons l55 fun t59 l60 => K.uncons l60 fun t61 l62 => K.unnil l62 (
K.fldK 2 t61 fun t63 =>
K.ldK ctx 95 t63 h57 fun t64 =>
K.lenVK t64 fun t65 =>
K.loopV (nat_lit 1000000) (fun s69 l66 m67 h68 => K.uncons l66 fun t70 l71 => K.uncons l71 fun t72 l73 => K.uncons l73 fun t74 l75 => K.uncons l75 fun t76 l77 => K.unnil l77 (
K.ltK (K.binV ctx .lss 3 false t76 t74) t76 t74 fun t78 =>
K.iteV t78 (
K.idxSK 1 t72 t76 fun t79 =>
K.ldK ctx 3 t79 h68 fun t80 =>
K.callFK run 73 [t80] h68 fun t81 h82 =>
K.slowK ctx run (K.opAt Go.Proofs.Tryz.f57 12 3) [43, 45] [t70, t81] h82 fun t83 h84 =>
K.addK (K.binV ctx .add 3 true t76 (.int .i64 (.ofNat 1))) t76 (.int .i64 (.ofNat 1)) fun t85 =>
s69 [t70, t72, t74, t85] m67 h84) (
j17 [t70] m67 h68))) [t59, t64, t65, (.int .i64 (.ofNat 0))] m56 h57)) fun j58 =>
K.fldK 1 t53 fun t86 =>
K.ldK ctx 4 t86 h49 fun t87 =>
K.iteV t87 (
K.slowK ctx run (K.opAt Go.Proofs.Tryz.f57 8 1) [35] [t51] h49 fun t88 h89 =>
j58 [t51, t53] m48 h89) (
j58 [t51, t53] m48 h49))) fun j50 =>
K.fldK 0 t44 fun t90 =>
K.ldK ctx 4 t90 h46 fun t91 =>
K.iteV t91 (
K.slowK ctx run (K.opAt Go.Proofs.Tryz.f57 6 1) [32] [t6] h46 fun t92 h93 =>
j50 [t6, t44] [] h93) (
j50 [t6, t44] [] h46))))) (
j17 [t6] [] h31))
noncomputable def r58 : K.KRun → List AV → H → K.KR := fun run args h => K.uncons args fun t0 l1 => K.uncons l1 fun t2 l3 => K.unnil l3 (
K.callFK run 76 [t0, t2] h fun t4 h5 =>
K.geK (K.binV ctx .geq 3 true t4 (.int .i64 (.ofNat 0))) t4 (.int .i64 (.ofNat 0)) fun t6 =>
K.unmarkK [] h5 fun h7 => .ok t6 h7)
noncomputable def r59N (N : Nat) : K.KRun → List AV → H → K.KR := fun run args h => K.uncons args fun t0 l1 => K.unnil l1 (
K.letK (fun (l2 : List AV) (m3 : List Nat) (h4 : H) => K.uncons l2 fun t6 l7 => K.uncons l7 fun t8 l9 => K.unnil l9 (
K.callFK run 77 [.nilSlice, t8] h4 fun t10 h11 =>
K.letK (fun (l12 : List AV) (m13 : List Nat) (h14 : H) => K.uncons l12 fun t16 l17 => K.unnil l17 (
K.unmarkK m13 h14 fun h18 => .ok t16 h18)) fun j15 =>
K.lenVK t6 fun t19 =>
K.loopV N (fun s23 l20 m21 h22 => K.uncons l20 fun t24 l25 => K.uncons l25 fun t26 l27 => K.uncons l27 fun t28 l29 => K.uncons l29 fun t30 l31 => K.unnil l31 (
K.ltK (K.binV ctx .lss 3 false t30 t28) t30 t28 fun t32 =>
K.iteV t32 (
K.idxSK 1 t26 t30 fun t33 =>
K.ldK ctx 75 t33 h22 fun t34 =>
K.appK ctx 88 13 t24 t34 h22 fun t35 h36 =>
K.addK (K.binV ctx .add 3 true t30 (.int .i64 (.ofNat 1))) t30 (.int .i64 (.ofNat 1)) fun t37 =>
s23 [t35, t26, t28, t37] m21 h36) (
j15 [t24] m21 h22))) [t10, t6, t19, (.int .i64 (.ofNat 0))] m3 h11)) fun j5 =>
K.lenVK t0 fun t38 =>
K.loopV N (fun s42 l39 m40 h41 => K.uncons l39 fun t43 l44 => K.uncons l44 fun t45 l46 => K.uncons l46 fun t47 l48 => K.uncons l48 fun t49 l50 => K.uncons l50 fun t51 l52 => K.unnil l52 (
K.ltK (K.binV ctx .lss 3 false t51 t49) t51 t49 fun t53 =>
K.iteV t53 (
K.letK (fun (l54 : List AV) (m55 : List Nat) (h56 : H) => K.uncons l54 fun t58 l59 => K.uncons l59 fun t60 l61 => K.uncons l61 fun t62 l63 => K.uncons l63 fun t64 l65 => K.uncons l65 fun t66 l67 => K.unnil l67 (
K.addK (K.binV ctx .add 3 true t66 (.int .i64 (.ofNat 1))) t66 (.int .i64 (.ofNat 1)) fun t68 =>
s42 [t58, t60, t62, t64, t68] m55 h56)) fun j57 =>
K.idxSK 1 t47 t51 fun t69 =>
K.ldK ctx 75 t69 h41 fun t70 =>
K.lenVK t70 fun t71 =>
K.addK (K.binV ctx .add 3 false t45 t71) t45 t71 fun t72 =>
K.ltK (K.binV ctx .lss 3 true t72 (.int .i64 (.ofNat 0))) t72 (.int .i64 (.ofNat 0)) fun t73 =>
K.iteV t73 (
K.slowK ctx run (K.opAt Go.Proofs.Tryz.f59 7 1) [21] [(.iface 9 (.str [108, 101, 110, 32, 111, 117, 116, 32, 111, 102, 32, 114, 97, 110, 103, 101]))] h41 fun t74 h75 =>
j57 [t43, t72, t47, t49, t51] m40 h75) (
j57 [t43, t72, t47, t49, t51] m40 h41)) (
j5 [t43, t45] m40 h41))) [t0, (.int .i64 (.ofNat 0)), t0, t38, (.int .i64 (.ofNat 0))] [] h)
noncomputable def r59 : K.KRun → List AV → H → K.KR := r59N (nat_lit 1000000)
noncomputable def r60 : K.KRun → List AV → H → K.KR := fun run args h => K.uncons args fun t0 l1 => K.uncons l1 fun t2 l3 => K.unnil l3 (
K.boxK t0 h fun t4 h5 =>
K.fldK 0 t4 fun t6 =>
K.ldK ctx 3 t6 h5 fun t7 =>
K.gtK (K.binV ctx .gtr 3 true t7 (.int .i64 (.ofNat 0))) t7 (.int .i64 (.ofNat 0)) fun t8 =>
K.letK (fun (t9 : AV) (h10 : H) => K.letK (fun (t12 : AV) (h13 : H) => K.letK (fun (t15 : AV) (h16 : H) => K.pickK t8 t15 (.bool false) fun t18 =>
K.unmarkK [] h16 fun h19 => .ok t18 h19) fun j17 =>
K.guK true t8 (K.callVK run t9 [t12] h13 fun t20 h21 =>
j17 t20 h21) (j17 (.tup []) h13)) fun j14 =>
K.guK true t8 (K.ldsK ctx 88 13 t4 h10 fun t22 =>
j14 t22 h10) (j14 (.tup []) h10)) fun j11 =>
K.guK true t8 (K.ldK ctx 99 t2 h5 fun t23 =>
j11 t23 h5) (j11 (.tup []) h5))
noncomputable def r61 : K.KRun → List AV → H → K.KR := fun run args h => K.uncons args fun t0 l1 => K.uncons l1 fun t2 l3 => K.uncons l3 fun t4 l5 => K.unnil l5 (
K.eqK (K.binV ctx .eql 101 true t0 .nilPtr) t0 .nilPtr fun t6 =>
K.iteV t6 (
K.unmarkK [] h fun h7 => .ok (.int .i64 (.ofNat 2)) h7) (
K.letK (fun (l8 : List AV) (m9 : List Nat) (h10 : H) => K.uncons l8 fun t12 l13 => K.unnil l13 (
K.iteV t12 (
K.unmarkK m9 h10 fun h14 => .ok (.int .i64 (.ofNat 1)) h14) (
K.unmarkK m9 h10 fun h15 => .ok (.int .i64 (.ofNat 0)) h15))) fun j11 =>
K.ltK (K.binV ctx .lss 23 false t2 t4) t2 t4 fun t16 =>
K.iteV t16 (
j11 [t16] [] h) (
K.gtK (K.binV ctx .gtr 23 true t2 (.int .u64 (.ofNat 1099511627776))) t2 (.int .u64 (.ofNat 1099511627776)) fun t17 =>
j11 [t17] [] h)))
noncomputable def r62 : K.KRun → List AV → H → K.KR := fun run args h => K.uncons args fun t0 l1 => K.uncons l1 fun t2 l3 => K.uncons l3 fun t4 l5 => K.unnil l5 (
K.allocK (K.zN ctx 143) (K.zT ctx 143) h fun t6 h7 =>
K.callFK run 78 [t0, t2] h7 fun t8 h9 =>
K.extK t8 0 fun t10 =>
K.extK t8 1 fun t11 =>
K.allocK (K.zN ctx 143) (K.zT ctx 143) h9 fun t12 h13 =>
K.stsK 3 t12 t10 h13 fun h14 =>
K.letK (fun (l15 : List AV) (m16 : List Nat) (h17 : H) => K.uncons l15 fun t19 l20 => K.uncons l20 fun t21 l22 => K.uncons l22 fun t23 l24 => K.unnil l24 (
K.ldsK ctx 143 3 t21 h17 fun t25 =>
K.stsK 3 t19 t25 h17 fun h26 =>
K.unmarkK m16 h26 fun h27 => K.asPtr t19 fun n28 n29 => K.loads h27 n28 n29 3 fun t30 => .ok (.tup [(.agg t30), t23]) h27)) fun j18 =>
K.eqK (K.binV ctx .eql 35 true t11 (.int .i64 (.ofNat 0))) t11 (.int .i64 (.ofNat 0)) fun t31 =>
K.letK (fun (t32 : AV) (h33 : H) => K.letK (fun (t35 : AV) (h36 : H) => K.letK (fun (t38 : AV) (h39 : H) => K.letK (fun (t41 : AV) (h42 : H) => K.letK (fun (t44 : AV) (h45 : H) => K.letK (fun (t47 : AV) (h48 : H) => K.letK (fun (t50 : AV) (h51 : H) => K.letK (fun (t53 : AV) (h54 : H) => K.letK (fun (t56 : AV) (h57 : H) => K.pickK t31 t56 (.bool false) fun t59 =>
K.iteV t59 (
j18 [t6, t12, (.int .i64 (.ofNat 22))] [] h57) (
j18 [t6, t12, t11] [] h57)) fun j58 =>
K.guK true t31 (K.pickK t41 (.bool true) t53 fun t60 =>
j58 t60 h54) (j58 (.tup []) h54)) fun j55 =>
K.guK false t41 (K.neK (K.binV ctx .neq 23 false t47 t50) t47 t50 fun t61 =>
j55 t61 h51) (j55 (.tup []) h51)) fun j52 =>
K.guK false t41 (j52 t4 h48) (j52 (.tup []) h48)) fun j49 =>
K.guK false t41 (K.ldK ctx 23 t44 h45 fun t62 =>
j49 t62 h45) (j49 (.tup []) h45)) fun j46 =>
K.guK false t41 (K.fldK 1 t12 fun t63 =>
j46 t63 h42) (j46 (.tup []) h42)) fun j43 =>
K.guK true t31 (j43 t38 h39) (j43 (.tup []) h39)) fun j40 =>
K.guK true t31 (K.notK t35 fun t64 =>
j40 t64 h36) (j40 (.tup []) h36)) fun j37 =>
K.guK true t31 (K.ldK ctx 4 t32 h33 fun t65 =>
j37 t65 h33) (j37 (.tup []) h33)) fun j34 =>
K.guK true t31 (K.fldK 0 t12 fun t66 =>
j34 t66 h14) (j34 (.tup []) h14))
end YthlpjeoddenioaaGreatDoorSfM
