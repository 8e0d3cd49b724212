/- PRINTED BY Gen2.lean (own): functions as plain texts, part 4. -/
import Derived.Test.YtlmgehjkbgaknaaGreatDoorPlCtx
namespace YtlmgehjkbgaknaaGreatDoorPlM
open Go Am
set_option maxRecDepth 100000
noncomputable def r293 : K.KRun → List AV → H → K.KR := fun run args h => K.uncons args fun t0 l1 => K.unnil l1 (
K.eqK (K.binV ctx .eql 304 true t0 .nilPtr) t0 .nilPtr fun t2 =>
K.iteV t2 (
K.unmarkK [] h fun h3 => .ok (.tup [(.int .i64 (.ofNat 0)), (.int .i64 (.ofNat 0))]) h3) (
K.nilK t0 fun t4 =>
K.fldK 4 t4 fun t5 =>
K.ldsK ctx 382 2 t5 h fun t6 =>
K.nilK t0 fun t7 =>
K.fldK 6 t7 fun t8 =>
K.ldsK ctx 382 2 t8 h fun t9 =>
K.callFK run 350 [t6] h fun t10 h11 =>
K.ldsK ctx 382 2 t8 h11 fun t12 =>
K.req (AV.same t9 t12) (
K.callFK run 350 [t9] h11 fun t13 h14 =>
K.unmarkK [] h14 fun h15 => .ok (.tup [t10, t13]) h15)))
noncomputable def r295 : K.KRun → List AV → H → K.KR := fun run args h => K.uncons args fun t0 l1 => K.uncons l1 fun t2 l3 => K.unnil l3 (
K.callFK run 221 [t0, t2] h fun t4 h5 =>
K.extK t4 0 fun t6 =>
K.extK t4 1 fun t7 =>
K.neK (K.binV ctx .neq 28 true t7 (.int .i64 (.ofNat 0))) t7 (.int .i64 (.ofNat 0)) fun t8 =>
K.letK (fun (t9 : AV) (h10 : H) => K.letK (fun (t12 : AV) (h13 : H) => K.pickK t8 (.bool true) t12 fun t15 =>
K.iteV t15 (
K.unmarkK [] h13 fun h16 => .ok (.int .i64 (.ofNat 0)) h16) (
K.callFK run 291 [t0, t2] h13 fun t17 h18 =>
K.extK t17 0 fun t19 =>
K.extK t17 1 fun t20 =>
K.notK t20 fun t21 =>
K.iteV t21 (
K.unmarkK [] h18 fun h22 => .ok (.int .i64 (.ofNat 2)) h22) (
K.unmarkK [] h18 fun h23 => .ok (.int .i64 (.ofNat 1)) h23))) fun j14 =>
K.guK false t8 (K.neK (K.binV ctx .neq 3 true t9 (.int .i64 (.ofNat 0))) t9 (.int .i64 (.ofNat 0)) fun t24 =>
j14 t24 h10) (j14 (.tup []) h10)) fun j11 =>
K.guK false t8 (j11 t6 h5) (j11 (.tup []) h5))
noncomputable def r296 : K.KRun → List AV → H → K.KR := fun run args h => K.uncons args fun t0 l1 => K.uncons l1 fun t2 l3 => K.unnil l3 (
K.nilK t0 fun t4 =>
K.fldK 0 t4 fun t5 =>
K.ldK ctx 43 t5 h fun t6 =>
K.nilK t0 fun t7 =>
K.fldK 1 t7 fun t8 =>
K.ldsK ctx 23 3 t8 h fun t9 =>
K.callFK run 205 [t6, t9] h fun t10 h11 =>
K.extK t10 0 fun t12 =>
K.extK t10 1 fun t13 =>
K.neK (K.binV ctx .neq 28 true t13 (.int .i64 (.ofNat 0))) t13 (.int .i64 (.ofNat 0)) fun t14 =>
K.iteV t14 (
K.unmarkK [] h11 fun h15 => .ok (.tup [(.int .i64 (.ofNat 0)), t13]) h15) (
K.callFK run 352 [t12] h11 fun t16 h17 =>
K.extK t16 0 fun t18 =>
K.extK t16 1 fun t19 =>
K.letK (fun (l20 : List AV) (m21 : List Nat) (h22 : H) => K.uncons l20 fun t24 l25 => K.uncons l25 fun t26 l27 => K.uncons l27 fun t28 l29 => K.uncons l29 fun t30 l31 => K.unnil l31 (
K.letK (fun (l32 : List AV) (m33 : List Nat) (h34 : H) => K.uncons l32 fun t36 l37 => K.uncons l37 fun t38 l39 => K.unnil l39 (
K.neK (K.binV ctx .neq 28 true t36 (.int .i64 (.ofNat 0))) t36 (.int .i64 (.ofNat 0)) fun t40 =>
K.iteV t40 (
K.unmarkK m33 h34 fun h41 => .ok (.tup [(.int .i64 (.ofNat 0)), t36]) h41) (
K.unmarkK m33 h34 fun h42 => .ok (.tup [t38, (.int .i64 (.ofNat 0))]) h42))) fun j35 =>
K.eqK (K.binV ctx .eql 28 true t28 (.int .i64 (.ofNat 0))) t28 (.int .i64 (.ofNat 0)) fun t43 =>
K.iteV t43 (
K.nilK t24 fun t44 =>
K.fldK 0 t44 fun t45 =>
K.ldK ctx 43 t45 h22 fun t46 =>
K.rK (convA ctx 3 24 t30 h22) fun t47 h48 =>
K.callFK run 124 [t46, t26, t47] h48 fun t49 h50 =>
j35 [t49, t30] m21 h50) (
j35 [t28, t30] m21 h22))) fun j23 =>
K.eqK (K.binV ctx .eql 28 true t19 (.int .i64 (.ofNat 0))) t19 (.int .i64 (.ofNat 0)) fun t51 =>
K.letK (fun (t52 : AV) (h53 : H) => K.letK (fun (t55 : AV) (h56 : H) => K.pickK t51 t55 (.bool false) fun t58 =>
K.iteV t58 (
j23 [t0, t2, (.int .i64 (.ofNat 4)), t18] [] h56) (
j23 [t0, t2, t19, t18] [] h56)) fun j57 =>
K.guK true t51 (K.eqK (K.binV ctx .eql 3 true t52 (.int .i64 (.ofNat 0))) t52 (.int .i64 (.ofNat 0)) fun t59 =>
j57 t59 h53) (j57 (.tup []) h53)) fun j54 =>
K.guK true t51 (j54 t18 h17) (j54 (.tup []) h17)))
noncomputable def r297 : K.KRun → List AV → H → K.KR := fun run args h => K.uncons args fun t0 l1 => K.uncons l1 fun t2 l3 => K.unnil l3 (
K.nilK t0 fun t4 =>
K.fldK 1 t4 fun t5 =>
K.ldsK ctx 23 3 t5 h fun t6 =>
K.nilK t0 fun t7 =>
K.fldK 4 t7 fun t8 =>
K.ldK ctx 3 t8 h fun t9 =>
K.callFK run 57 [t6, t9] h fun t10 h11 =>
K.addK (K.binV ctx .add 3 false t10 t2) t10 t2 fun t12 =>
K.unmarkK [] h11 fun h13 => .ok t12 h13)
noncomputable def r307 : K.KRun → List AV → H → K.KR := fun run args h => K.uncons args fun t0 l1 => K.uncons l1 fun t2 l3 => K.unnil l3 (
K.loopV (nat_lit 1000000) (fun s7 l4 m5 h6 => K.uncons l4 fun t8 l9 => K.uncons l9 fun t10 l11 => K.uncons l11 fun t12 l13 => K.unnil l13 (
K.ltK (K.binV ctx .lss 3 true t12 (.int .i64 (.ofNat 12))) t12 (.int .i64 (.ofNat 12)) fun t14 =>
K.iteV t14 (
K.ldK ctx 3 t10 h6 fun t15 =>
K.addK (K.binV ctx .add 3 false t15 t12) t15 t12 fun t16 =>
K.oK (K.binV ctx .rem 3 true t16 (.int .i64 (.ofNat 12))) fun t17 =>
K.callVK run t8 [t17] h6 fun t18 h19 =>
K.notK t18 fun t20 =>
K.iteV t20 (
K.unmarkK m5 h19 fun h21 => .ok (.tup []) h21) (
K.addK (K.binV ctx .add 3 true t12 (.int .i64 (.ofNat 1))) t12 (.int .i64 (.ofNat 1)) fun t22 =>
s7 [t8, t10, t22] m5 h19)) (
K.unmarkK m5 h6 fun h23 => .ok (.tup []) h23))) [t0, t2, (.int .i64 (.ofNat 0))] [] h)
noncomputable def r322 : K.KRun → List AV → H → K.KR := fun run args h => K.unnil args (
K.bldSK ctx 439 [(0, (.int .u64 (.ofNat 14695981039346656037)))] fun t0 =>
K.boxK t0 h fun t1 h2 =>
K.unmarkK [] h2 fun h3 => .ok t1 h3)
noncomputable def r323 : K.KRun → List AV → H → K.KR := fun run args h => K.uncons args fun t0 l1 => K.uncons l1 fun t2 l3 => K.unnil l3 (
K.neK (K.binV ctx .neq 414 true t0 .nilPtr) t0 .nilPtr fun t4 =>
K.iteV t4 (
K.nilK t0 fun t5 =>
K.fldK 0 t5 fun t6 =>
K.ldK ctx 24 t6 h fun t7 =>
K.oK (K.binV ctx .xor 24 false t7 t2) fun t8 =>
K.mulK (K.binV ctx .mul 24 true t8 (.int .u64 (.ofNat 1099511628211))) t8 (.int .u64 (.ofNat 1099511628211)) fun t9 =>
K.nilK t0 fun t10 =>
K.fldK 0 t10 fun t11 =>
K.stK t11 t9 h fun h12 =>
K.unmarkK [] h12 fun h13 => .ok (.tup []) h13) (
K.unmarkK [] h fun h14 => .ok (.tup []) h14))
noncomputable def r324 : K.KRun → List AV → H → K.KR := fun run args h => K.uncons args fun t0 l1 => K.unnil l1 (
K.boxK t0 h fun t2 h3 =>
K.unmarkK [] h3 fun h4 => .ok (.func (.func 362) [] [t2]) h4)
noncomputable def r325 : K.KRun → List AV → H → K.KR := fun run args h => K.uncons args fun t0 l1 => K.unnil l1 (
K.eqK (K.binV ctx .eql 414 true t0 .nilPtr) t0 .nilPtr fun t2 =>
K.iteV t2 (
K.unmarkK [] h fun h3 => .ok (.int .u64 (.ofNat 0)) h3) (
K.nilK t0 fun t4 =>
K.fldK 0 t4 fun t5 =>
K.ldK ctx 24 t5 h fun t6 =>
K.unmarkK [] h fun h7 => .ok t6 h7))
noncomputable def r333 : K.KRun → List AV → H → K.KR := fun run args h => K.uncons args fun t0 l1 => K.uncons l1 fun t2 l3 => K.unnil l3 (
K.eqK (K.binV ctx .eql 198 true t0 .nilPtr) t0 .nilPtr fun t4 =>
K.letK (fun (t5 : AV) (h6 : H) => K.letK (fun (t8 : AV) (h9 : H) => K.letK (fun (t11 : AV) (h12 : H) => K.letK (fun (t14 : AV) (h15 : H) => K.pickK t4 (.bool true) t14 fun t17 =>
K.iteV t17 (
K.unmarkK [] h15 fun h18 => .ok (.str []) h18) (
K.nilK t0 fun t19 =>
K.fldK 0 t19 fun t20 =>
K.ldK ctx 131 t20 h15 fun t21 =>
K.callVK run t2 [t21] h15 fun t22 h23 =>
K.extK t22 0 fun t24 =>
K.extK t22 1 fun t25 =>
K.eqK (K.binV ctx .eql 3 true t25 (.int .i64 (.ofNat 0))) t25 (.int .i64 (.ofNat 0)) fun t26 =>
K.nilK t0 fun t27 =>
K.fldK 1 t27 fun t28 =>
K.stK t28 t26 h23 fun h29 =>
K.nilK t0 fun t30 =>
K.fldK 1 t30 fun t31 =>
K.ldK ctx 4 t31 h29 fun t32 =>
K.iteV t32 (
K.unmarkK [] h29 fun h33 => .ok (.str []) h33) (
K.nilK t0 fun t34 =>
K.fldK 0 t34 fun t35 =>
K.ldK ctx 131 t35 h29 fun t36 =>
K.slcK ctx 131 t36 (some t25) none none h29 fun t37 =>
K.nilK t0 fun t38 =>
K.fldK 0 t38 fun t39 =>
K.stK t39 t37 h29 fun h40 =>
K.unmarkK [] h40 fun h41 => .ok t24 h41))) fun j16 =>
K.guK false t4 (K.ldK ctx 4 t11 h12 fun t42 =>
j16 t42 h12) (j16 (.tup []) h12)) fun j13 =>
K.guK false t4 (K.fldK 1 t8 fun t43 =>
j13 t43 h9) (j13 (.tup []) h9)) fun j10 =>
K.guK false t4 (K.nilK t5 fun t44 =>
j10 t44 h6) (j10 (.tup []) h6)) fun j7 =>
K.guK false t4 (j7 t0 h) (j7 (.tup []) h))
noncomputable def r334 : K.KRun → List AV → H → K.KR := fun run args h => K.uncons args fun t0 l1 => K.uncons l1 fun t2 l3 => K.unnil l3 (
K.callFK run 274 [t0] h fun t4 h5 =>
K.extK t4 0 fun t6 =>
K.extK t4 1 fun t7 =>
K.eqK (K.binV ctx .eql 3 true t7 (.int .i64 (.ofNat 0))) t7 (.int .i64 (.ofNat 0)) fun t8 =>
K.letK (fun (t9 : AV) (h10 : H) => K.letK (fun (t12 : AV) (h13 : H) => K.pickK t8 (.bool true) t12 fun t15 =>
K.letK (fun (t16 : AV) (h17 : H) => K.letK (fun (t19 : AV) (h20 : H) => K.letK (fun (t22 : AV) (h23 : H) => K.letK (fun (t25 : AV) (h26 : H) => K.letK (fun (t28 : AV) (h29 : H) => K.letK (fun (t31 : AV) (h32 : H) => K.letK (fun (t34 : AV) (h35 : H) => K.letK (fun (t37 : AV) (h38 : H) => K.letK (fun (t40 : AV) (h41 : H) => K.pickK t15 (.bool true) t40 fun t43 =>
K.iteV t43 (
K.unmarkK [] h41 fun h44 => .ok (.tup [(.str []), (.int .i64 (.ofNat 0))]) h44) (
K.rK (convA ctx 24 3 t6 h41) fun t45 h46 =>
K.addK (K.binV ctx .add 3 false t7 t45) t7 t45 fun t47 =>
K.slcK ctx 131 t0 (some t7) (some t47) none h46 fun t48 =>
K.rK (convA ctx 131 9 t48 h46) fun t49 h50 =>
K.unmarkK [] h50 fun h51 => .ok (.tup [t49, t47]) h51)) fun j42 =>
K.guK false t15 (K.gtK (K.binV ctx .gtr 24 false t16 t37) t16 t37 fun t52 =>
j42 t52 h38) (j42 (.tup []) h38)) fun j39 =>
K.guK false t15 (K.rK (convA ctx 3 24 t34 h35) fun t53 h54 =>
j39 t53 h54) (j39 (.tup []) h35)) fun j36 =>
K.guK false t15 (K.slowK ctx run (K.opAt Go.Proofs.Tryz.f334 2 13) [21, 25] [t19, t31] h32 fun t55 h56 =>
j36 t55 h56) (j36 (.tup []) h32)) fun j33 =>
K.guK false t15 (K.subK (K.binV ctx .sub 3 false t25 t28) t25 t28 fun t57 =>
j33 t57 h29) (j33 (.tup []) h29)) fun j30 =>
K.guK false t15 (j30 t7 h26) (j30 (.tup []) h26)) fun j27 =>
K.guK false t15 (K.lenVK t22 fun t58 =>
j27 t58 h23) (j27 (.tup []) h23)) fun j24 =>
K.guK false t15 (j24 t0 h20) (j24 (.tup []) h20)) fun j21 =>
K.guK false t15 (K.ldK ctx 3 t2 h17 fun t59 =>
j21 t59 h17) (j21 (.tup []) h17)) fun j18 =>
K.guK false t15 (j18 t6 h13) (j18 (.tup []) h13)) fun j14 =>
K.guK false t8 (K.ltK (K.binV ctx .lss 3 true t9 (.int .i64 (.ofNat 0))) t9 (.int .i64 (.ofNat 0)) fun t60 =>
j14 t60 h10) (j14 (.tup []) h10)) fun j11 =>
K.guK false t8 (K.ldK ctx 3 t2 h5 fun t61 =>
j11 t61 h5) (j11 (.tup []) h5))
noncomputable def r337 : K.KRun → List AV → H → K.KR := fun run args h => K.uncons args fun t0 l1 => K.unnil l1 (
K.nilK t0 fun t2 =>
K.fldK 0 t2 fun t3 =>
K.ldK ctx 43 t3 h fun t4 =>
K.callFK run 297 [t0, (.int .i64 (.ofNat 8))] h fun t5 h6 =>
K.ldK ctx 43 t3 h6 fun t7 =>
K.req (AV.same t4 t7) (
K.callFK run 119 [t4, t5] h6 fun t8 h9 =>
K.rK (convA ctx 24 3 t8 h9) fun t10 h11 =>
K.unmarkK [] h11 fun h12 => .ok t10 h12))
noncomputable def r340 : K.KRun → List AV → H → K.KR := fun run args h => K.uncons args fun t0 l1 => K.uncons l1 fun t2 l3 => K.uncons l3 fun t4 l5 => K.unnil l5 (
K.eqK (K.binV ctx .eql 378 true t0 .nilPtr) t0 .nilPtr fun t6 =>
K.iteV t6 (
K.unmarkK [] h fun h7 => .ok (.int .i64 (.ofNat 2)) h7) (
K.callFK run 365 [t0, t2] h fun t8 h9 =>
K.notK t8 fun t10 =>
K.iteV t10 (
K.unmarkK [] h9 fun h11 => .ok (.int .i64 (.ofNat 8)) h11) (
K.callFK run 366 [t0, t2] h9 fun t12 h13 =>
K.extK t12 0 fun t14 =>
K.extK t12 1 fun t15 =>
K.nilK t0 fun t16 =>
K.fldK 0 t16 fun t17 =>
K.ldK ctx 43 t17 h13 fun t18 =>
K.callFK run 119 [t18, t14] h13 fun t19 h20 =>
K.oK (K.binV ctx .andNot 24 false t19 t15) fun t21 =>
K.letK (fun (l22 : List AV) (m23 : List Nat) (h24 : H) => K.uncons l22 fun t26 l27 => K.uncons l27 fun t28 l29 => K.uncons l29 fun t30 l31 => K.unnil l31 (
K.nilK t26 fun t32 =>
K.fldK 0 t32 fun t33 =>
K.ldK ctx 43 t33 h24 fun t34 =>
K.callFK run 192 [t34, t28, t30] h24 fun t35 h36 =>
K.unmarkK m23 h36 fun h37 => .ok t35 h37)) fun j25 =>
K.iteV t4 (
K.oK (K.binV ctx .or 24 false t21 t15) fun t38 =>
j25 [t0, t14, t38] [] h20) (
j25 [t0, t14, t21] [] h20))))
noncomputable def r341 : K.KRun → List AV → H → K.KR := fun run args h => K.uncons args fun t0 l1 => K.uncons l1 fun t2 l3 => K.unnil l3 (
K.lenTK t0 fun t4 =>
K.lenTK t2 fun t5 =>
K.geK (K.binV ctx .geq 3 false t4 t5) t4 t5 fun t6 =>
K.letK (fun (t7 : AV) (h8 : H) => K.letK (fun (t10 : AV) (h11 : H) => K.letK (fun (t13 : AV) (h14 : H) => K.letK (fun (t16 : AV) (h17 : H) => K.letK (fun (t19 : AV) (h20 : H) => K.letK (fun (t22 : AV) (h23 : H) => K.pickK t6 t22 (.bool false) fun t25 =>
K.unmarkK [] h23 fun h26 => .ok t25 h26) fun j24 =>
K.guK true t6 (K.eqK (K.binV ctx .eql 9 false t16 t19) t16 t19 fun t27 =>
j24 t27 h20) (j24 (.tup []) h20)) fun j21 =>
K.guK true t6 (j21 t2 h17) (j21 (.tup []) h17)) fun j18 =>
K.guK true t6 (K.slcK ctx 9 t7 none (some t13) none h14 fun t28 =>
j18 t28 h14) (j18 (.tup []) h14)) fun j15 =>
K.guK true t6 (K.lenTK t10 fun t29 =>
j15 t29 h11) (j15 (.tup []) h11)) fun j12 =>
K.guK true t6 (j12 t2 h8) (j12 (.tup []) h8)) fun j9 =>
K.guK true t6 (j9 t0 h) (j9 (.tup []) h))
noncomputable def r342 : K.KRun → List AV → H → K.KR := fun run args h => K.uncons args fun t0 l1 => K.uncons l1 fun t2 l3 => K.unnil l3 (
K.ldK ctx 9 t2 h fun t4 =>
K.loopV (nat_lit 1000000) (fun s8 l5 m6 h7 => K.uncons l5 fun t9 l10 => K.uncons l10 fun t11 l12 => K.uncons l12 fun t13 l14 => K.unnil l14 (
K.iteV t13 (
K.callFK run 343 [t11, (.str [47])] h7 fun t15 h16 =>
K.extK t15 0 fun t17 =>
K.extK t15 1 fun t18 =>
K.extK t15 2 fun t19 =>
K.callVK run t9 [t17] h16 fun t20 h21 =>
K.notK t20 fun t22 =>
K.iteV t22 (
K.unmarkK m6 h21 fun h23 => .ok (.tup []) h23) (
s8 [t9, t18, t19] m6 h21)) (
K.unmarkK m6 h7 fun h24 => .ok (.tup []) h24))) [t0, t4, (.bool true)] [] h)
noncomputable def r343 : K.KRun → List AV → H → K.KR := fun run args h => K.uncons args fun t0 l1 => K.uncons l1 fun t2 l3 => K.unnil l3 (
K.callFK run 367 [t0, t2] h fun t4 h5 =>
K.extK t4 0 fun t6 =>
K.extK t4 1 fun t7 =>
K.extK t4 2 fun t8 =>
K.unmarkK [] h5 fun h9 => .ok (.tup [t6, t7, t8]) h9)
noncomputable def r344 : K.KRun → List AV → H → K.KR := fun run args h => K.uncons args fun t0 l1 => K.uncons l1 fun t2 l3 => K.unnil l3 (
K.callFK run 368 [t0, t2] h fun t4 h5 =>
K.geK (K.binV ctx .geq 3 true t4 (.int .i64 (.ofNat 0))) t4 (.int .i64 (.ofNat 0)) fun t6 =>
K.unmarkK [] h5 fun h7 => .ok t6 h7)
noncomputable def r345 : K.KRun → List AV → H → K.KR := fun run args h => K.uncons args fun t0 l1 => K.unnil l1 (
K.boxK t0 h fun t2 h3 =>
K.allocK (K.zN ctx 3) (K.zT ctx 3) h3 fun t4 h5 =>
K.allocK (K.zN ctx 4) (K.zT ctx 4) h5 fun t6 h7 =>
K.letK (fun (l8 : List AV) (m9 : List Nat) (h10 : H) => K.uncons l8 fun t12 l13 => K.uncons l13 fun t14 l15 => K.unnil l15 (
K.stK t12 (.int .i64 (.ofNat 0)) h10 fun h16 =>
K.stK t14 (.bool false) h16 fun h17 =>
K.unmarkK m9 h17 fun h18 => K.asPtr t12 fun n19 n20 => K.load1 h18 n19 n20 fun t21 => K.asPtr t14 fun n22 n23 => K.load1 h18 n22 n23 fun t24 => .ok (.tup [t21, t24]) h18)) fun j11 =>
K.ldK ctx 378 t2 h7 fun t25 =>
K.callFK run 369 [t25] h7 fun t26 h27 =>
K.hNew h27 .marks fun r28 h29 => K.hNew h29 (.loop .ready none (K.mkT [1, 2, 3, 8] [t2, t4, t6, t26]) 9 r28) fun n30 h31 =>
K.rngK ctx run t26 n30 h31 (fun h33 => j11 [t4, t6] (r28 :: []) h33) (fun h34 => K.unmarkK (r28 :: []) h34 fun h37 => K.asPtr t4 fun n38 n39 => K.load1 h37 n38 n39 fun t40 => K.asPtr t6 fun n41 n42 => K.load1 h37 n41 n42 fun t43 => .ok (.tup [t40, t43]) h37) fun i32 h35 => (Bool.rec (motive := fun _ => K.KR) (.bad) (j11 [t4, t6] (r28 :: []) h35) (Nat.beq i32 0)))
noncomputable def r346 : K.KRun → List AV → H → K.KR := fun run args h => K.uncons args fun t0 l1 => K.uncons l1 fun t2 l3 => K.unnil l3 (
K.letK (fun (l4 : List AV) (m5 : List Nat) (h6 : H) => K.unnil l4 (
K.unmarkK m5 h6 fun h8 => .ok (.int .i64 (.ofNat 0)) h8)) fun j7 =>
K.lenVK t2 fun t9 =>
K.loopV (nat_lit 1000000) (fun s13 l10 m11 h12 => K.uncons l10 fun t14 l15 => K.uncons l15 fun t16 l17 => K.uncons l17 fun t18 l19 => K.uncons l19 fun t20 l21 => K.unnil l21 (
K.ltK (K.binV ctx .lss 3 false t20 t18) t20 t18 fun t22 =>
K.iteV t22 (
K.idxSK 1 t16 t20 fun t23 =>
K.ldK ctx 3 t23 h12 fun t24 =>
K.nilK t14 fun t25 =>
K.fldK 0 t25 fun t26 =>
K.ldK ctx 43 t26 h12 fun t27 =>
K.callFK run 192 [t27, t24, (.int .u64 (.ofNat 0))] h12 fun t28 h29 =>
K.neK (K.binV ctx .neq 28 true t28 (.int .i64 (.ofNat 0))) t28 (.int .i64 (.ofNat 0)) fun t30 =>
K.iteV t30 (
K.unmarkK m11 h29 fun h31 => .ok t28 h31) (
K.addK (K.binV ctx .add 3 true t20 (.int .i64 (.ofNat 1))) t20 (.int .i64 (.ofNat 1)) fun t32 =>
s13 [t14, t16, t18, t32] m11 h29)) (
j7 [] m11 h12))) [t0, t2, t9, (.int .i64 (.ofNat 0))] [] h)
noncomputable def r347 : K.KRun → List AV → H → K.KR := fun run args h => K.uncons args fun t0 l1 => K.unnil l1 (
K.callFK run 283 [t0] h fun t2 h3 =>
K.notK t2 fun t4 =>
K.iteV t4 (
K.unmarkK [] h3 fun h5 => .ok (.int .i64 (.ofNat 0)) h5) (
K.callFK run 69 [t0] h3 fun t6 h7 =>
K.callFK run 259 [t6] h7 fun t8 h9 =>
K.oK (K.binV ctx .rem 24 true t8 (.int .u64 (.ofNat 12))) fun t10 =>
K.rK (convA ctx 24 3 t10 h9) fun t11 h12 =>
K.unmarkK [] h12 fun h13 => .ok t11 h13))
noncomputable def r348 : K.KRun → List AV → H → K.KR := fun run args h => K.uncons args fun t0 l1 => K.uncons l1 fun t2 l3 => K.unnil l3 (
K.addK (K.binV ctx .add 3 true (.int .i64 (.ofNat 4)) t2) (.int .i64 (.ofNat 4)) t2 fun t4 =>
K.callFK run 297 [t0, t4] h fun t5 h6 =>
K.unmarkK [] h6 fun h7 => .ok (.tup [t5, (.bool true)]) h7)
noncomputable def r349 : K.KRun → List AV → H → K.KR := fun run args h => K.uncons args fun t0 l1 => K.uncons l1 fun t2 l3 => K.unnil l3 (
K.callFK run 337 [t0] h fun t4 h5 =>
K.nilK t0 fun t6 =>
K.fldK 1 t6 fun t7 =>
K.ldsK ctx 23 3 t7 h5 fun t8 =>
K.callFK run 227 [t8, t4] h5 fun t9 h10 =>
K.addK (K.binV ctx .add 3 false t9 t2) t9 t2 fun t11 =>
K.subK (K.binV ctx .sub 3 true t11 (.int .i64 (.ofNat 4))) t11 (.int .i64 (.ofNat 4)) fun t12 =>
K.neK (K.binV ctx .neq 3 true t4 (.int .i64 (.ofNat 0))) t4 (.int .i64 (.ofNat 0)) fun t13 =>
K.unmarkK [] h10 fun h14 => .ok (.tup [t12, t13]) h14)
noncomputable def r350 : K.KRun → List AV → H → K.KR := fun run args h => K.uncons args fun t0 l1 => K.unnil l1 (
K.boxK t0 h fun t2 h3 =>
K.fldK 1 t2 fun t4 =>
K.ldK ctx 3 t4 h3 fun t5 =>
K.fldK 0 t2 fun t6 =>
K.ldK ctx 378 t6 h3 fun t7 =>
K.callFK run 371 [t7] h3 fun t8 h9 =>
K.ldK ctx 3 t4 h9 fun t10 =>
K.req (AV.same t5 t10) (
K.subK (K.binV ctx .sub 3 false t5 t8) t5 t8 fun t11 =>
K.unmarkK [] h9 fun h12 => .ok t11 h12))
noncomputable def r352 : K.KRun → List AV → H → K.KR := fun run args h => K.uncons args fun t0 l1 => K.unnil l1 (
K.boxK t0 h fun t2 h3 =>
K.ldK ctx 304 t2 h3 fun t4 =>
K.eqK (K.binV ctx .eql 304 true t4 .nilPtr) t4 .nilPtr fun t5 =>
K.iteV t5 (
K.unmarkK [] h3 fun h6 => .ok (.tup [(.int .i64 (.ofNat 0)), (.int .i64 (.ofNat 2))]) h6) (
K.ldK ctx 304 t2 h3 fun t7 =>
K.ldK ctx 304 t2 h3 fun t8 =>
K.nilK t8 fun t9 =>
K.fldK 6 t9 fun t10 =>
K.ldsK ctx 382 2 t10 h3 fun t11 =>
K.callFK run 286 [t7, t11, (.func (.func 372) [] [t2])] h3 fun t12 h13 =>
K.extK t12 0 fun t14 =>
K.extK t12 1 fun t15 =>
K.unmarkK [] h13 fun h16 => .ok (.tup [t14, t15]) h16))
noncomputable def r362 : K.KRun → List AV → H → K.KR := fun run args h => K.uncons args fun t0 l1 => K.uncons l1 fun t2 l3 => K.unnil l3 (
K.ldK ctx 39 t2 h fun t4 =>
K.lenVK t4 fun t5 =>
K.loopV (nat_lit 1000000) (fun s9 l6 m7 h8 => K.uncons l6 fun t10 l11 => K.uncons l11 fun t12 l13 => K.uncons l13 fun t14 l15 => K.uncons l15 fun t16 l17 => K.unnil l17 (
K.ltK (K.binV ctx .lss 3 false t16 t14) t16 t14 fun t18 =>
K.iteV t18 (
K.idxSK 1 t12 t16 fun t19 =>
K.ldK ctx 24 t19 h8 fun t20 =>
K.callVK run t10 [t20] h8 fun t21 h22 =>
K.notK t21 fun t23 =>
K.iteV t23 (
K.unmarkK m7 h22 fun h24 => .ok (.tup []) h24) (
K.addK (K.binV ctx .add 3 true t16 (.int .i64 (.ofNat 1))) t16 (.int .i64 (.ofNat 1)) fun t25 =>
s9 [t10, t12, t14, t25] m7 h22)) (
K.unmarkK m7 h8 fun h26 => .ok (.tup []) h26))) [t0, t4, t5, (.int .i64 (.ofNat 0))] [] h)
noncomputable def r365 : K.KRun → List AV → H → K.KR := fun run args h => K.uncons args fun t0 l1 => K.uncons l1 fun t2 l3 => K.unnil l3 (
K.neK (K.binV ctx .neq 378 true t0 .nilPtr) t0 .nilPtr fun t4 =>
K.letK (fun (t5 : AV) (h6 : H) => K.letK (fun (t8 : AV) (h9 : H) => K.pickK t4 t8 (.bool false) fun t11 =>
K.letK (fun (t12 : AV) (h13 : H) => K.letK (fun (t15 : AV) (h16 : H) => K.letK (fun (t18 : AV) (h19 : H) => K.letK (fun (t21 : AV) (h22 : H) => K.letK (fun (t24 : AV) (h25 : H) => K.letK (fun (t27 : AV) (h28 : H) => K.pickK t11 t27 (.bool false) fun t30 =>
K.unmarkK [] h28 fun h31 => .ok t30 h31) fun j29 =>
K.guK true t11 (K.ltK (K.binV ctx .lss 3 false t12 t24) t12 t24 fun t32 =>
j29 t32 h25) (j29 (.tup []) h25)) fun j26 =>
K.guK true t11 (K.ldK ctx 3 t21 h22 fun t33 =>
j26 t33 h22) (j26 (.tup []) h22)) fun j23 =>
K.guK true t11 (K.fldK 2 t18 fun t34 =>
j23 t34 h19) (j23 (.tup []) h19)) fun j20 =>
K.guK true t11 (K.nilK t15 fun t35 =>
j20 t35 h16) (j20 (.tup []) h16)) fun j17 =>
K.guK true t11 (j17 t0 h13) (j17 (.tup []) h13)) fun j14 =>
K.guK true t11 (j14 t2 h9) (j14 (.tup []) h9)) fun j10 =>
K.guK true t4 (K.geK (K.binV ctx .geq 3 true t5 (.int .i64 (.ofNat 0))) t5 (.int .i64 (.ofNat 0)) fun t36 =>
j10 t36 h6) (j10 (.tup []) h6)) fun j7 =>
K.guK true t4 (j7 t2 h) (j7 (.tup []) h))
noncomputable def r366 : K.KRun → List AV → H → K.KR := fun run args h => K.uncons args fun t0 l1 => K.uncons l1 fun t2 l3 => K.unnil l3 (
K.nilK t0 fun t4 =>
K.fldK 1 t4 fun t5 =>
K.ldK ctx 3 t5 h fun t6 =>
K.oK (K.binV ctx .quo 3 true t2 (.int .i64 (.ofNat 64))) fun t7 =>
K.addK (K.binV ctx .add 3 false t6 t7) t6 t7 fun t8 =>
K.oK (K.binV ctx .rem 3 true t2 (.int .i64 (.ofNat 64))) fun t9 =>
K.oK (K.binV ctx .shl 24 true (.int .u64 (.ofNat 1)) t9) fun t10 =>
K.unmarkK [] h fun h11 => .ok (.tup [t8, t10]) h11)
noncomputable def r367 : K.KRun → List AV → H → K.KR := fun run args h => K.uncons args fun t0 l1 => K.uncons l1 fun t2 l3 => K.unnil l3 (
K.callFK run 375 [t0, t2] h fun t4 h5 =>
K.geK (K.binV ctx .geq 3 true t4 (.int .i64 (.ofNat 0))) t4 (.int .i64 (.ofNat 0)) fun t6 =>
K.iteV t6 (
K.slcK ctx 9 t0 none (some t4) none h5 fun t7 =>
K.lenTK t2 fun t8 =>
K.addK (K.binV ctx .add 3 false t4 t8) t4 t8 fun t9 =>
K.slcK ctx 9 t0 (some t9) none none h5 fun t10 =>
K.unmarkK [] h5 fun h11 => .ok (.tup [t7, t10, (.bool true)]) h11) (
K.unmarkK [] h5 fun h12 => .ok (.tup [t0, (.str []), (.bool false)]) h12))
noncomputable def r369 : K.KRun → List AV → H → K.KR := fun run args h => K.uncons args fun t0 l1 => K.unnil l1 (
K.boxK t0 h fun t2 h3 =>
K.unmarkK [] h3 fun h4 => .ok (.func (.func 380) [] [t2]) h4)
noncomputable def r370 : K.KRun → List AV → H → K.KR := fun run args h => K.uncons args fun t0 l1 => K.unnil l1 (
K.eqK (K.binV ctx .eql 24 true t0 (.int .u64 (.ofNat 0))) t0 (.int .u64 (.ofNat 0)) fun t2 =>
K.iteV t2 (
K.unmarkK [] h fun h3 => .ok (.int .i64 (.ofNat 64)) h3) (
K.oK (unA .neg t0) fun t4 =>
K.oK (K.binV ctx .and 24 false t0 t4) fun t5 =>
K.mulK (K.binV ctx .mul 24 true t5 (.int .u64 (.ofNat 285870213051353865))) t5 (.int .u64 (.ofNat 285870213051353865)) fun t6 =>
K.oK (K.binV ctx .shr 24 true t6 (.int .u64 (.ofNat 58))) fun t7 =>
K.idxAK 64 1 (.gptr 3 0) t7 fun t8 =>
K.ldK ctx 5 t8 h fun t9 =>
K.rK (convA ctx 5 3 t9 h) fun t10 h11 =>
K.unmarkK [] h11 fun h12 => .ok t10 h12))
noncomputable def r371 : K.KRun → List AV → H → K.KR := fun run args h => K.uncons args fun t0 l1 => K.unnil l1 (
K.allocK (K.zN ctx 3) (K.zT ctx 3) h fun t2 h3 =>
K.letK (fun (l4 : List AV) (m5 : List Nat) (h6 : H) => K.uncons l4 fun t8 l9 => K.unnil l9 (
K.ldK ctx 3 t8 h6 fun t10 =>
K.stK t8 t10 h6 fun h11 =>
K.unmarkK m5 h11 fun h12 => K.asPtr t8 fun n13 n14 => K.load1 h12 n13 n14 fun t15 => .ok t15 h12)) fun j7 =>
K.callFK run 369 [t0] h3 fun t16 h17 =>
K.hNew h17 .marks fun r18 h19 => K.hNew h19 (.loop .ready none (K.mkT [2, 6] [t2, t16]) 10 r18) fun n20 h21 =>
K.rngK ctx run t16 n20 h21 (fun h23 => j7 [t2] (r18 :: []) h23) (fun h24 => K.unmarkK (r18 :: []) h24 fun h27 => K.asPtr t2 fun n28 n29 => K.load1 h27 n28 n29 fun t30 => .ok t30 h27) fun i22 h25 => (Bool.rec (motive := fun _ => K.KR) (.bad) (j7 [t2] (r18 :: []) h25) (Nat.beq i22 0)))
noncomputable def r372 : K.KRun → List AV → H → K.KR := fun run args h => K.uncons args fun t0 l1 => K.uncons l1 fun t2 l3 => K.unnil l3 (
K.ldK ctx 304 t2 h fun t4 =>
K.nilK t4 fun t5 =>
K.fldK 1 t5 fun t6 =>
K.ldsK ctx 23 3 t6 h fun t7 =>
K.callFK run 227 [t7, t0] h fun t8 h9 =>
K.letK (fun (l10 : List AV) (m11 : List Nat) (h12 : H) => K.uncons l10 fun t14 l15 => K.unnil l15 (
K.unmarkK m11 h12 fun h16 => .ok t14 h16)) fun j13 =>
K.loopV (nat_lit 1000000) (fun s20 l17 m18 h19 => K.uncons l17 fun t21 l22 => K.uncons l22 fun t23 l24 => K.uncons l24 fun t25 l26 => K.unnil l26 (
K.ltK (K.binV ctx .lss 3 true t25 (.int .i64 (.ofNat 8))) t25 (.int .i64 (.ofNat 8)) fun t27 =>
K.iteV t27 (
K.addK (K.binV ctx .add 3 false t23 t25) t23 t25 fun t28 =>
K.bslK ctx 3 1 1 [(0, t28)] h19 fun t29 h30 =>
K.appK ctx 3 1 t21 t29 h30 fun t31 h32 =>
K.addK (K.binV ctx .add 3 true t25 (.int .i64 (.ofNat 1))) t25 (.int .i64 (.ofNat 1)) fun t33 =>
s20 [t31, t23, t33] m18 h32) (
j13 [t21] m18 h19))) [.nilSlice, t8, (.int .i64 (.ofNat 0))] [] h9)
noncomputable def r375 : K.KRun → List AV → H → K.KR := fun run args h => K.uncons args fun t0 l1 => K.uncons l1 fun t2 l3 => K.unnil l3 (
K.lenTK t2 fun t4 =>
K.eqK (K.binV ctx .eql 3 true t4 (.int .i64 (.ofNat 0))) t4 (.int .i64 (.ofNat 0)) fun t5 =>
K.letK (fun (t6 : AV) (h7 : H) => K.letK (fun (t9 : AV) (h10 : H) => K.letK (fun (t12 : AV) (h13 : H) => K.pickK t5 (.bool true) t12 fun t15 =>
K.iteV t15 (
K.unmarkK [] h13 fun h16 => .ok (.int .i64 (.ofNat 0)) h16) (
K.eqK (K.binV ctx .eql 3 true t4 (.int .i64 (.ofNat 1))) t4 (.int .i64 (.ofNat 1)) fun t17 =>
K.iteV t17 (
K.idxTK t2 (.int .i64 (.ofNat 0)) fun t18 =>
K.callFK run 382 [t0, t18] h13 fun t19 h20 =>
K.unmarkK [] h20 fun h21 => .ok t19 h21) (
K.lenTK t0 fun t22 =>
K.geK (K.binV ctx .geq 3 false t4 t22) t4 t22 fun t23 =>
K.iteV t23 (
K.unmarkK [] h13 fun h24 => .ok (.int .i64 (.negSucc 0)) h24) (
K.ldK ctx 3 (.gptr 2 0) h13 fun t25 =>
K.leK (K.binV ctx .leq 3 false t4 t25) t4 t25 fun t26 =>
K.letK (fun (t27 : AV) (h28 : H) => K.letK (fun (t30 : AV) (h31 : H) => K.letK (fun (t33 : AV) (h34 : H) => K.pickK t26 t33 (.bool false) fun t36 =>
K.iteV t36 (
K.callFK run 383 [t0, t2] h34 fun t37 h38 =>
K.unmarkK [] h38 fun h39 => .ok t37 h39) (
K.idxTK t2 (.int .i64 (.ofNat 0)) fun t40 =>
K.idxTK t2 (.int .i64 (.ofNat 1)) fun t41 =>
K.lenTK t0 fun t42 =>
K.subK (K.binV ctx .sub 3 false t42 t4) t42 t4 fun t43 =>
K.addK (K.binV ctx .add 3 true t43 (.int .i64 (.ofNat 1))) t43 (.int .i64 (.ofNat 1)) fun t44 =>
K.letK (fun (l45 : List AV) (m46 : List Nat) (h47 : H) => K.unnil l45 (
K.unmarkK m46 h47 fun h49 => .ok (.int .i64 (.negSucc 0)) h49)) fun j48 =>
K.loopV (nat_lit 1000000) (fun s53 l50 m51 h52 => K.uncons l50 fun t54 l55 => K.uncons l55 fun t56 l57 => K.uncons l57 fun t58 l59 => K.uncons l59 fun t60 l61 => K.uncons l61 fun t62 l63 => K.uncons l63 fun t64 l65 => K.uncons l65 fun t66 l67 => K.uncons l67 fun t68 l69 => K.unnil l69 (
K.ltK (K.binV ctx .lss 3 false t64 t66) t64 t66 fun t70 =>
K.iteV t70 (
K.letK (fun (l71 : List AV) (m72 : List Nat) (h73 : H) => K.uncons l71 fun t75 l76 => K.uncons l76 fun t77 l78 => K.uncons l78 fun t79 l80 => K.uncons l80 fun t81 l82 => K.uncons l82 fun t83 l84 => K.uncons l84 fun t85 l86 => K.uncons l86 fun t87 l88 => K.uncons l88 fun t89 l90 => K.unnil l90 (
K.addK (K.binV ctx .add 3 true t85 (.int .i64 (.ofNat 1))) t85 (.int .i64 (.ofNat 1)) fun t91 =>
K.idxTK t75 t91 fun t92 =>
K.eqK (K.binV ctx .eql 5 false t92 t83) t92 t83 fun t93 =>
K.letK (fun (t94 : AV) (h95 : H) => K.letK (fun (t97 : AV) (h98 : H) => K.letK (fun (t100 : AV) (h101 : H) => K.letK (fun (t103 : AV) (h104 : H) => K.letK (fun (t106 : AV) (h107 : H) => K.letK (fun (t109 : AV) (h110 : H) => K.letK (fun (t112 : AV) (h113 : H) => K.letK (fun (t115 : AV) (h116 : H) => K.pickK t93 t115 (.bool false) fun t118 =>
K.iteV t118 (
K.unmarkK m72 h116 fun h119 => .ok t85 h119) (
K.addK (K.binV ctx .add 3 true t85 (.int .i64 (.ofNat 1))) t85 (.int .i64 (.ofNat 1)) fun t120 =>
K.addK (K.binV ctx .add 3 true t89 (.int .i64 (.ofNat 1))) t89 (.int .i64 (.ofNat 1)) fun t121 =>
K.ldK ctx 3 (.gptr 2 0) h116 fun t122 =>
K.leK (K.binV ctx .leq 3 false t79 t122) t79 t122 fun t123 =>
K.letK (fun (t124 : AV) (h125 : H) => K.letK (fun (t127 : AV) (h128 : H) => K.letK (fun (t130 : AV) (h131 : H) => K.letK (fun (t133 : AV) (h134 : H) => K.pickK t123 t133 (.bool false) fun t136 =>
K.iteV t136 (
K.slcK ctx 9 t75 (some t120) none none h134 fun t137 =>
K.callFK run 383 [t137, t77] h134 fun t138 h139 =>
K.geK (K.binV ctx .geq 3 true t138 (.int .i64 (.ofNat 0))) t138 (.int .i64 (.ofNat 0)) fun t140 =>
K.iteV t140 (
K.addK (K.binV ctx .add 3 false t138 t120) t138 t120 fun t141 =>
K.unmarkK m72 h139 fun h142 => .ok t141 h142) (
K.unmarkK m72 h139 fun h143 => .ok (.int .i64 (.negSucc 0)) h143)) (
K.ldK ctx 3 (.gptr 2 0) h134 fun t144 =>
K.gtK (K.binV ctx .gtr 3 false t79 t144) t79 t144 fun t145 =>
K.letK (fun (t146 : AV) (h147 : H) => K.letK (fun (t149 : AV) (h150 : H) => K.letK (fun (t152 : AV) (h153 : H) => K.letK (fun (t155 : AV) (h156 : H) => K.letK (fun (t158 : AV) (h159 : H) => K.pickK t145 t158 (.bool false) fun t161 =>
K.letK (fun (t162 : AV) (h163 : H) => K.letK (fun (t165 : AV) (h166 : H) => K.letK (fun (t168 : AV) (h169 : H) => K.pickK t161 t168 (.bool false) fun t171 =>
K.iteV t171 (
K.slcK ctx 9 t75 (some t120) none none h169 fun t172 =>
K.callFK run 385 [t172, t77] h169 fun t173 h174 =>
K.ltK (K.binV ctx .lss 3 true t173 (.int .i64 (.ofNat 0))) t173 (.int .i64 (.ofNat 0)) fun t175 =>
K.iteV t175 (
K.unmarkK m72 h174 fun h176 => .ok (.int .i64 (.negSucc 0)) h176) (
K.addK (K.binV ctx .add 3 false t120 t173) t120 t173 fun t177 =>
K.unmarkK m72 h174 fun h178 => .ok t177 h178)) (
s53 [t75, t77, t79, t81, t83, t120, t87, t121] m72 h169)) fun j170 =>
K.guK true t161 (K.ltK (K.binV ctx .lss 3 false t162 t165) t162 t165 fun t179 =>
j170 t179 h166) (j170 (.tup []) h166)) fun j167 =>
K.guK true t161 (j167 t87 h163) (j167 (.tup []) h163)) fun j164 =>
K.guK true t161 (j164 t120 h159) (j164 (.tup []) h159)) fun j160 =>
K.guK true t145 (K.geK (K.binV ctx .geq 3 false t146 t155) t146 t155 fun t180 =>
j160 t180 h156) (j160 (.tup []) h156)) fun j157 =>
K.guK true t145 (K.addK (K.binV ctx .add 3 true (.int .i64 (.ofNat 4)) t152) (.int .i64 (.ofNat 4)) t152 fun t181 =>
j157 t181 h153) (j157 (.tup []) h153)) fun j154 =>
K.guK true t145 (K.oK (K.binV ctx .shr 3 true t149 (.int .u64 (.ofNat 4))) fun t182 =>
j154 t182 h150) (j154 (.tup []) h150)) fun j151 =>
K.guK true t145 (j151 t120 h147) (j151 (.tup []) h147)) fun j148 =>
K.guK true t145 (j148 t121 h134) (j148 (.tup []) h134))) fun j135 =>
K.guK true t123 (K.gtK (K.binV ctx .gtr 3 false t124 t130) t124 t130 fun t183 =>
j135 t183 h131) (j135 (.tup []) h131)) fun j132 =>
K.guK true t123 (K.callFK run 384 [t127] h128 fun t184 h185 =>
j132 t184 h185) (j132 (.tup []) h128)) fun j129 =>
K.guK true t123 (j129 t120 h125) (j129 (.tup []) h125)) fun j126 =>
K.guK true t123 (j126 t121 h116) (j126 (.tup []) h116))) fun j117 =>
K.guK true t93 (K.eqK (K.binV ctx .eql 9 false t109 t112) t109 t112 fun t186 =>
j117 t186 h113) (j117 (.tup []) h113)) fun j114 =>
K.guK true t93 (j114 t77 h110) (j114 (.tup []) h110)) fun j111 =>
K.guK true t93 (K.slcK ctx 9 t94 (some t97) (some t106) none h107 fun t187 =>
j111 t187 h107) (j111 (.tup []) h107)) fun j108 =>
K.guK true t93 (K.addK (K.binV ctx .add 3 false t100 t103) t100 t103 fun t188 =>
j108 t188 h104) (j108 (.tup []) h104)) fun j105 =>
K.guK true t93 (j105 t79 h101) (j105 (.tup []) h101)) fun j102 =>
K.guK true t93 (j102 t85 h98) (j102 (.tup []) h98)) fun j99 =>
K.guK true t93 (j99 t85 h95) (j99 (.tup []) h95)) fun j96 =>
K.guK true t93 (j96 t75 h73) (j96 (.tup []) h73))) fun j74 =>
K.idxTK t54 t64 fun t189 =>
K.neK (K.binV ctx .neq 5 false t189 t60) t189 t60 fun t190 =>
K.iteV t190 (
K.addK (K.binV ctx .add 3 true t64 (.int .i64 (.ofNat 1))) t64 (.int .i64 (.ofNat 1)) fun t191 =>
K.slcK ctx 9 t54 (some t191) (some t66) none h52 fun t192 =>
K.callFK run 382 [t192, t60] h52 fun t193 h194 =>
K.ltK (K.binV ctx .lss 3 true t193 (.int .i64 (.ofNat 0))) t193 (.int .i64 (.ofNat 0)) fun t195 =>
K.iteV t195 (
K.unmarkK m51 h194 fun h196 => .ok (.int .i64 (.negSucc 0)) h196) (
K.addK (K.binV ctx .add 3 true t193 (.int .i64 (.ofNat 1))) t193 (.int .i64 (.ofNat 1)) fun t197 =>
K.addK (K.binV ctx .add 3 false t64 t197) t64 t197 fun t198 =>
j74 [t54, t56, t58, t60, t62, t198, t66, t68] m51 h194)) (
j74 [t54, t56, t58, t60, t62, t64, t66, t68] m51 h52)) (
j48 [] m51 h52))) [t0, t2, t4, t40, t41, (.int .i64 (.ofNat 0)), t44, (.int .i64 (.ofNat 0))] [] h34)) fun j35 =>
K.guK true t26 (K.leK (K.binV ctx .leq 3 true t30 (.int .i64 (.ofNat 64))) t30 (.int .i64 (.ofNat 64)) fun t199 =>
j35 t199 h31) (j35 (.tup []) h31)) fun j32 =>
K.guK true t26 (K.lenTK t27 fun t200 =>
j32 t200 h28) (j32 (.tup []) h28)) fun j29 =>
K.guK true t26 (j29 t0 h13) (j29 (.tup []) h13))))) fun j14 =>
K.guK false t5 (K.eqK (K.binV ctx .eql 9 false t6 t9) t6 t9 fun t201 =>
j14 t201 h10) (j14 (.tup []) h10)) fun j11 =>
K.guK false t5 (j11 t0 h7) (j11 (.tup []) h7)) fun j8 =>
K.guK false t5 (j8 t2 h) (j8 (.tup []) h))
noncomputable def r377 : K.KRun → List AV → H → K.KR := fun run args h => K.uncons args fun t0 l1 => K.unnil l1 (
K.gtK (K.binV ctx .gtr 3 true t0 (.int .i64 (.ofNat 8))) t0 (.int .i64 (.ofNat 8)) fun t2 =>
K.unmarkK [] h fun h3 => .ok t2 h3)
noncomputable def r380 : K.KRun → List AV → H → K.KR := fun run args h => K.uncons args fun t0 l1 => K.uncons l1 fun t2 l3 => K.unnil l3 (
K.ldK ctx 378 t2 h fun t4 =>
K.eqK (K.binV ctx .eql 378 true t4 .nilPtr) t4 .nilPtr fun t5 =>
K.iteV t5 (
K.unmarkK [] h fun h6 => .ok (.tup []) h6) (
K.loopV (nat_lit 1000000) (fun s10 l7 m8 h9 => K.uncons l7 fun t11 l12 => K.uncons l12 fun t13 l14 => K.uncons l14 fun t15 l16 => K.unnil l16 (
K.ldK ctx 378 t13 h9 fun t17 =>
K.nilK t17 fun t18 =>
K.fldK 2 t18 fun t19 =>
K.ldK ctx 3 t19 h9 fun t20 =>
K.ltK (K.binV ctx .lss 3 false t15 t20) t15 t20 fun t21 =>
K.iteV t21 (
K.ldK ctx 378 t13 h9 fun t22 =>
K.nilK t22 fun t23 =>
K.fldK 0 t23 fun t24 =>
K.ldK ctx 43 t24 h9 fun t25 =>
K.ldK ctx 378 t13 h9 fun t26 =>
K.nilK t26 fun t27 =>
K.fldK 1 t27 fun t28 =>
K.ldK ctx 3 t28 h9 fun t29 =>
K.oK (K.binV ctx .quo 3 true t15 (.int .i64 (.ofNat 64))) fun t30 =>
K.addK (K.binV ctx .add 3 false t29 t30) t29 t30 fun t31 =>
K.callFK run 119 [t25, t31] h9 fun t32 h33 =>
K.letK (fun (l34 : List AV) (m35 : List Nat) (h36 : H) => K.uncons l34 fun t38 l39 => K.uncons l39 fun t40 l41 => K.uncons l41 fun t42 l43 => K.uncons l43 fun t44 l45 => K.unnil l45 (
K.callVK run t38 [t42, t44] h36 fun t46 h47 =>
K.notK t46 fun t48 =>
K.iteV t48 (
K.unmarkK m35 h47 fun h49 => .ok (.tup []) h49) (
K.addK (K.binV ctx .add 3 true t42 (.int .i64 (.ofNat 64))) t42 (.int .i64 (.ofNat 64)) fun t50 =>
s10 [t38, t40, t50] m35 h47))) fun j37 =>
K.ldK ctx 378 t13 h33 fun t51 =>
K.nilK t51 fun t52 =>
K.fldK 2 t52 fun t53 =>
K.ldK ctx 3 t53 h33 fun t54 =>
K.subK (K.binV ctx .sub 3 false t54 t15) t54 t15 fun t55 =>
K.ltK (K.binV ctx .lss 3 true t55 (.int .i64 (.ofNat 64))) t55 (.int .i64 (.ofNat 64)) fun t56 =>
K.iteV t56 (
K.oK (K.binV ctx .shl 24 true (.int .u64 (.ofNat 1)) t55) fun t57 =>
K.subK (K.binV ctx .sub 24 true t57 (.int .u64 (.ofNat 1))) t57 (.int .u64 (.ofNat 1)) fun t58 =>
K.oK (K.binV ctx .and 24 false t32 t58) fun t59 =>
j37 [t11, t13, t15, t59] m8 h33) (
j37 [t11, t13, t15, t32] m8 h33)) (
K.unmarkK m8 h9 fun h60 => .ok (.tup []) h60))) [t0, t2, (.int .i64 (.ofNat 0))] [] h))
noncomputable def r381 : K.KRun → List AV → H → K.KR := fun run args h => K.uncons args fun t0 l1 => K.unnil l1 (
K.oK (K.binV ctx .shr 24 true t0 (.int .u64 (.ofNat 1))) fun t2 =>
K.oK (K.binV ctx .and 24 true t2 (.int .u64 (.ofNat 6148914691236517205))) fun t3 =>
K.oK (K.binV ctx .and 24 true t0 (.int .u64 (.ofNat 6148914691236517205))) fun t4 =>
K.addK (K.binV ctx .add 24 false t3 t4) t3 t4 fun t5 =>
K.oK (K.binV ctx .shr 24 true t5 (.int .u64 (.ofNat 2))) fun t6 =>
K.oK (K.binV ctx .and 24 true t6 (.int .u64 (.ofNat 3689348814741910323))) fun t7 =>
K.oK (K.binV ctx .and 24 true t5 (.int .u64 (.ofNat 3689348814741910323))) fun t8 =>
K.addK (K.binV ctx .add 24 false t7 t8) t7 t8 fun t9 =>
K.oK (K.binV ctx .shr 24 true t9 (.int .u64 (.ofNat 4))) fun t10 =>
K.addK (K.binV ctx .add 24 false t10 t9) t10 t9 fun t11 =>
K.oK (K.binV ctx .and 24 true t11 (.int .u64 (.ofNat 1085102592571150095))) fun t12 =>
K.oK (K.binV ctx .shr 24 true t12 (.int .u64 (.ofNat 8))) fun t13 =>
K.addK (K.binV ctx .add 24 false t12 t13) t12 t13 fun t14 =>
K.oK (K.binV ctx .shr 24 true t14 (.int .u64 (.ofNat 16))) fun t15 =>
K.addK (K.binV ctx .add 24 false t14 t15) t14 t15 fun t16 =>
K.oK (K.binV ctx .shr 24 true t16 (.int .u64 (.ofNat 32))) fun t17 =>
K.addK (K.binV ctx .add 24 false t16 t17) t16 t17 fun t18 =>
K.rK (convA ctx 24 3 t18 h) fun t19 h20 =>
K.oK (K.binV ctx .and 3 true t19 (.int .i64 (.ofNat 127))) fun t21 =>
K.unmarkK [] h20 fun h22 => .ok t21 h22)
noncomputable def r382 : K.KRun → List AV → H → K.KR := fun run args h => K.uncons args fun t0 l1 => K.uncons l1 fun t2 l3 => K.unnil l3 (
K.callFK run 388 [t0, t2] h fun t4 h5 =>
K.unmarkK [] h5 fun h6 => .ok t4 h6)
noncomputable def r386 : K.KRun → List AV → H → K.KR := fun run args h => K.uncons args fun t0 l1 => K.uncons l1 fun t2 l3 => K.unnil l3 (
K.callFK run 382 [t0, t2] h fun t4 h5 =>
K.unmarkK [] h5 fun h6 => .ok t4 h6)
noncomputable def y1 : K.RnF := fun run l args env h => K.uncons args fun t0 l1 => K.uncons l1 fun t2 l3 => K.unnil l3 (
K.opt (K.get env 4) fun t4 => K.begR l h fun h5 =>
K.ldK ctx 24 t4 h5 fun t6 =>
K.oK (K.binV ctx .shl 24 true t6 (.int .u64 (.ofNat 8))) fun t7 =>
K.rK (convA ctx 5 24 t2 h5) fun t8 h9 =>
K.oK (K.binV ctx .or 24 false t7 t8) fun t10 =>
K.stK t4 t10 h9 fun h11 =>
K.finR l h11 .ready none true)
noncomputable def y2 : K.RnF := fun run l args env h => K.uncons args fun t0 l1 => K.unnil l1 (
K.opt (K.get env 2) fun t2 => K.begR l h fun h3 =>
K.allocK (K.zN ctx 24) (K.zT ctx 24) h3 fun t4 h5 =>
K.stK t4 (.int .u64 (.ofNat 0)) h5 fun h6 =>
K.letK (fun (l7 : List AV) (m8 : List Nat) (h9 : H) => K.uncons l7 fun t11 l12 => K.uncons l12 fun t13 l14 => K.unnil l14 (
K.ldK ctx 39 t11 h9 fun t15 =>
K.ldK ctx 24 t13 h9 fun t16 =>
K.bslK ctx 24 1 1 [(0, t16)] h9 fun t17 h18 =>
K.appK ctx 24 1 t15 t17 h18 fun t19 h20 =>
K.stK t11 t19 h20 fun h21 =>
K.finR l h21 .ready none true)) fun j10 =>
K.callFK run 126 [t0] h6 fun t22 h23 =>
K.opt (K.hObj h23 l) fun o32 => K.asLoop o32 fun _ _ _ _ r24 => K.hNew h23 (.loop .ready none (K.mkT [2, 4, 12] [t2, t4, t22]) 1 r24) fun n26 h27 =>
K.rngK ctx run t22 n26 h27 (fun h29 => j10 [t2, t4] [] h29) (fun h30 => K.finR l h30 .done (some .ret) false) fun i28 h31 => (Bool.rec (motive := fun _ => K.KR) ((Bool.rec (motive := fun _ => K.KR) (K.finR l h31 .done (some (.exit i28)) false) (K.finR l h31 .ready none true) (Nat.beq i28 1))) (j10 [t2, t4] [] h31) (Nat.beq i28 2)))
noncomputable def y3 : K.RnF := fun run l args env h => K.uncons args fun t0 l1 => K.uncons l1 fun t2 l3 => K.unnil l3 (
K.opt (K.get env 4) fun t4 => K.opt (K.get env 5) fun t5 => K.opt (K.get env 6) fun t6 => K.opt (K.get env 7) fun t7 => K.opt (K.get env 8) fun t8 => K.opt (K.get env 9) fun t9 => K.opt (K.get env 11) fun t10 => K.begR l h fun h11 =>
K.notK t2 fun t12 =>
K.iteV t12 (
K.finR l h11 .ready none true) (
K.fldK 2 t10 fun t13 =>
K.ldK ctx 24 t13 h11 fun t14 =>
K.geK (K.binV ctx .geq 24 true t14 (.int .u64 (.ofNat 16))) t14 (.int .u64 (.ofNat 16)) fun t15 =>
K.iteV t15 (
K.stK t8 (.int .i64 (.ofNat 0)) h11 fun h16 =>
K.stK t9 (.int .i64 (.ofNat 4)) h16 fun h17 =>
K.finR l h17 .done (some .ret) false) (
K.ldK ctx 43 t4 h11 fun t18 =>
K.ldK ctx 3 t6 h11 fun t19 =>
K.ldK ctx 3 t7 h11 fun t20 =>
K.bldSK ctx 225 [(0, t20)] fun t21 =>
K.callFK run 131 [t18, t19, t0, t21] h11 fun t22 h23 =>
K.letK (fun (l24 : List AV) (m25 : List Nat) (h26 : H) => K.uncons l24 fun t28 l29 => K.uncons l29 fun t30 l31 => K.uncons l31 fun t32 l33 => K.uncons l33 fun t34 l35 => K.unnil l35 (
K.neK (K.binV ctx .neq 28 true t34 (.int .i64 (.ofNat 0))) t34 (.int .i64 (.ofNat 0)) fun t36 =>
K.iteV t36 (
K.stK t28 (.int .i64 (.ofNat 0)) h26 fun h37 =>
K.stK t30 t34 h37 fun h38 =>
K.finR l h38 .done (some .ret) false) (
K.stK t28 t32 h26 fun h39 =>
K.stK t30 (.int .i64 (.ofNat 0)) h39 fun h40 =>
K.finR l h40 .done (some .ret) false))) fun j27 =>
K.eqK (K.binV ctx .eql 28 true t22 (.int .i64 (.ofNat 0))) t22 (.int .i64 (.ofNat 0)) fun t41 =>
K.iteV t41 (
K.ldK ctx 43 t4 h23 fun t42 =>
K.ldsK ctx 23 3 t5 h23 fun t43 =>
K.ldK ctx 3 t7 h23 fun t44 =>
K.fldK 2 t10 fun t45 =>
K.ldK ctx 24 t45 h23 fun t46 =>
K.addK (K.binV ctx .add 24 true t46 (.int .u64 (.ofNat 1))) t46 (.int .u64 (.ofNat 1)) fun t47 =>
K.callFK run 57 [t43, t44] h23 fun t48 h49 =>
K.ldK ctx 24 t45 h49 fun t50 =>
K.req (AV.same t46 t50) (
K.ldK ctx 43 t4 h49 fun t51 =>
K.req (AV.same t42 t51) (
K.addK (K.binV ctx .add 3 true t48 (.int .i64 (.ofNat 2))) t48 (.int .i64 (.ofNat 2)) fun t52 =>
K.callFK run 124 [t42, t52, t47] h49 fun t53 h54 =>
j27 [t8, t9, t0, t53] [] h54))) (
j27 [t8, t9, t0, t22] [] h23))))
noncomputable def y4 : K.RnF := fun run l args env h => K.uncons args fun t0 l1 => K.unnil l1 (
K.opt (K.get env 2) fun t2 => K.opt (K.get env 3) fun t3 => K.begR l h fun h4 =>
K.callFK run 283 [t0] h4 fun t5 h6 =>
K.notK t5 fun t7 =>
K.iteV t7 (
K.stK t2 .nilSlice h6 fun h8 =>
K.stK t3 (.int .i64 (.ofNat 13)) h8 fun h9 =>
K.finR l h9 .done (some .ret) false) (
K.ldK ctx 311 t2 h6 fun t10 =>
K.bslK ctx 9 1 1 [(0, t0)] h6 fun t11 h12 =>
K.appK ctx 9 1 t10 t11 h12 fun t13 h14 =>
K.stK t2 t13 h14 fun h15 =>
K.finR l h15 .ready none true))
noncomputable def y5 : K.RnF := fun run l args env h => K.uncons args fun t0 l1 => K.unnil l1 (
K.opt (K.get env 4) fun t2 => K.begR l h fun h3 =>
K.ldK ctx 174 t2 h3 fun t4 =>
K.callVK run t4 [t0] h3 fun t5 h6 =>
K.finR l h6 .ready none true)
noncomputable def y6 : K.RnF := fun run l args env h => K.uncons args fun t0 l1 => K.uncons l1 fun t2 l3 => K.unnil l3 (
K.opt (K.get env 2) fun t4 => K.begR l h fun h5 =>
K.ldK ctx 24 t4 h5 fun t6 =>
K.oK (K.binV ctx .shl 24 true t6 (.int .u64 (.ofNat 8))) fun t7 =>
K.rK (convA ctx 5 24 t2 h5) fun t8 h9 =>
K.oK (K.binV ctx .or 24 false t7 t8) fun t10 =>
K.stK t4 t10 h9 fun h11 =>
K.finR l h11 .ready none true)
noncomputable def y7 : K.RnF := fun run l args env h => K.uncons args fun t0 l1 => K.unnil l1 (
K.opt (K.get env 2) fun t2 => K.opt (K.get env 3) fun t3 => K.opt (K.get env 4) fun t4 => K.opt (K.get env 5) fun t5 => K.opt (K.get env 6) fun t6 => K.begR l h fun h7 =>
K.ldsK ctx 341 5 t2 h7 fun t8 =>
K.callFK run 247 [t8, t0] h7 fun t9 h10 =>
K.extK t9 0 fun t11 =>
K.extK t9 1 fun t12 =>
K.allocK (K.zN ctx 248) (K.zT ctx 248) h10 fun t13 h14 =>
K.stsK 2 t13 t11 h14 fun h15 =>
K.neK (K.binV ctx .neq 28 true t12 (.int .i64 (.ofNat 0))) t12 (.int .i64 (.ofNat 0)) fun t16 =>
K.iteV t16 (
K.bldSK ctx 248 [] fun t17 =>
K.stsK 2 t4 t17 h15 fun h18 =>
K.stK t5 (.int .i64 (.ofNat 0)) h18 fun h19 =>
K.stK t6 t12 h19 fun h20 =>
K.finR l h20 .done (some .ret) false) (
K.ldsK ctx 248 2 t13 h15 fun t21 =>
K.ldK ctx 9 t3 h15 fun t22 =>
K.fldK 1 t13 fun t23 =>
K.ldK ctx 3 t23 h15 fun t24 =>
K.bldSK ctx 248 [(0, t22), (1, t24)] fun t25 =>
K.eqK (K.binV ctx .eql 248 false t21 t25) t21 t25 fun t26 =>
K.iteV t26 (
K.ldsK ctx 248 2 t13 h15 fun t27 =>
K.stsK 2 t4 t27 h15 fun h28 =>
K.stK t5 t0 h28 fun h29 =>
K.stK t6 (.int .i64 (.ofNat 0)) h29 fun h30 =>
K.finR l h30 .done (some .ret) false) (
K.finR l h15 .ready none true)))
end YtlmgehjkbgaknaaGreatDoorPlM
