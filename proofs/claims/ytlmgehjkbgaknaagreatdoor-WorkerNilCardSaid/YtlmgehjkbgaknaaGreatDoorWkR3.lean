/- PRINTED BY Gen2.lean (own): functions as plain texts, part 3. -/
import Derived.Test.YtlmgehjkbgaknaaGreatDoorWkCtx
namespace YtlmgehjkbgaknaaGreatDoorWkM
open Go Am
set_option maxRecDepth 100000
noncomputable def r311 : K.KRun → List AV → H → K.KR := fun run args h => K.uncons args fun t0 l1 => K.uncons l1 fun t2 l3 => K.uncons l3 fun t4 l5 => K.unnil l5 (
K.addK (K.binV ctx .add 3 true t2 (.int .i64 (.ofNat 1))) t2 (.int .i64 (.ofNat 1)) fun t6 =>
K.loopV (nat_lit 1000000) (fun s10 l7 m8 h9 => K.uncons l7 fun t11 l12 => K.uncons l12 fun t13 l14 => K.uncons l14 fun t15 l16 => K.uncons l16 fun t17 l18 => K.unnil l18 (
K.ltK (K.binV ctx .lss 3 false t17 t15) t17 t15 fun t19 =>
K.iteV t19 (
K.letK (fun (l20 : List AV) (m21 : List Nat) (h22 : H) => K.uncons l20 fun t24 l25 => K.uncons l25 fun t26 l27 => K.uncons l27 fun t28 l29 => K.uncons l29 fun t30 l31 => K.unnil l31 (
K.addK (K.binV ctx .add 3 true t30 (.int .i64 (.ofNat 1))) t30 (.int .i64 (.ofNat 1)) fun t32 =>
s10 [t24, t26, t28, t32] m21 h22)) fun j23 =>
K.loopV (nat_lit 1000000) (fun s36 l33 m34 h35 => K.uncons l33 fun t37 l38 => K.uncons l38 fun t39 l40 => K.uncons l40 fun t41 l42 => K.uncons l42 fun t43 l44 => K.uncons l44 fun t45 l46 => K.unnil l46 (
K.gtK (K.binV ctx .gtr 3 false t45 t39) t45 t39 fun t47 =>
K.letK (fun (t48 : AV) (h49 : H) => K.letK (fun (t51 : AV) (h52 : H) => K.letK (fun (t54 : AV) (h55 : H) => K.letK (fun (t57 : AV) (h58 : H) => K.letK (fun (t60 : AV) (h61 : H) => K.letK (fun (t63 : AV) (h64 : H) => K.letK (fun (t66 : AV) (h67 : H) => K.letK (fun (t69 : AV) (h70 : H) => K.letK (fun (t72 : AV) (h73 : H) => K.letK (fun (t75 : AV) (h76 : H) => K.pickK t47 t75 (.bool false) fun t78 =>
K.iteV t78 (
K.subK (K.binV ctx .sub 3 true t45 (.int .i64 (.ofNat 1))) t45 (.int .i64 (.ofNat 1)) fun t79 =>
K.subK (K.binV ctx .sub 3 true t45 (.int .i64 (.ofNat 1))) t45 (.int .i64 (.ofNat 1)) fun t80 =>
K.idxSK 1 t37 t80 fun t81 =>
K.ldK ctx 3 t81 h76 fun t82 =>
K.idxSK 1 t37 t45 fun t83 =>
K.ldK ctx 3 t83 h76 fun t84 =>
K.idxSK 1 t37 t45 fun t85 =>
K.stK t85 t82 h76 fun h86 =>
K.idxSK 1 t37 t79 fun t87 =>
K.stK t87 t84 h86 fun h88 =>
K.subK (K.binV ctx .sub 3 true t45 (.int .i64 (.ofNat 1))) t45 (.int .i64 (.ofNat 1)) fun t89 =>
s36 [t37, t39, t41, t43, t89] m34 h88) (
j23 [t37, t39, t41, t43] m34 h76)) fun j77 =>
K.guK true t47 (K.callFK run 317 [t57, t72] h73 fun t90 h91 =>
j77 t90 h91) (j77 (.tup []) h73)) fun j74 =>
K.guK true t47 (K.ldK ctx 3 t69 h70 fun t92 =>
j74 t92 h70) (j74 (.tup []) h70)) fun j71 =>
K.guK true t47 (K.idxSK 1 t60 t66 fun t93 =>
j71 t93 h67) (j71 (.tup []) h67)) fun j68 =>
K.guK true t47 (K.subK (K.binV ctx .sub 3 true t63 (.int .i64 (.ofNat 1))) t63 (.int .i64 (.ofNat 1)) fun t94 =>
j68 t94 h64) (j68 (.tup []) h64)) fun j65 =>
K.guK true t47 (j65 t45 h61) (j65 (.tup []) h61)) fun j62 =>
K.guK true t47 (j62 t37 h58) (j62 (.tup []) h58)) fun j59 =>
K.guK true t47 (K.ldK ctx 3 t54 h55 fun t95 =>
j59 t95 h55) (j59 (.tup []) h55)) fun j56 =>
K.guK true t47 (K.idxSK 1 t48 t51 fun t96 =>
j56 t96 h52) (j56 (.tup []) h52)) fun j53 =>
K.guK true t47 (j53 t45 h49) (j53 (.tup []) h49)) fun j50 =>
K.guK true t47 (j50 t37 h35) (j50 (.tup []) h35))) [t11, t13, t15, t17, t17] m8 h9) (
K.unmarkK m8 h9 fun h97 => .ok (.tup []) h97))) [t0, t2, t4, t6] [] h)
noncomputable def r317 : K.KRun → List AV → H → K.KR := fun run args h => K.uncons args fun t0 l1 => K.uncons l1 fun t2 l3 => K.unnil l3 (
K.callFK run 361 [t0] h fun t4 h5 =>
K.letK (fun (t6 : AV) (h7 : H) => K.letK (fun (t9 : AV) (h10 : H) => K.letK (fun (t12 : AV) (h13 : H) => K.pickK t4 t12 (.bool false) fun t15 =>
K.letK (fun (t16 : AV) (h17 : H) => K.letK (fun (t19 : AV) (h20 : H) => K.letK (fun (t22 : AV) (h23 : H) => K.pickK t15 (.bool true) t22 fun t25 =>
K.unmarkK [] h23 fun h26 => .ok t25 h26) fun j24 =>
K.guK false t15 (K.ltK (K.binV ctx .lss 3 false t16 t19) t16 t19 fun t27 =>
j24 t27 h20) (j24 (.tup []) h20)) fun j21 =>
K.guK false t15 (j21 t2 h17) (j21 (.tup []) h17)) fun j18 =>
K.guK false t15 (j18 t0 h13) (j18 (.tup []) h13)) fun j14 =>
K.guK true t4 (K.notK t9 fun t28 =>
j14 t28 h10) (j14 (.tup []) h10)) fun j11 =>
K.guK true t4 (K.callFK run 361 [t6] h7 fun t29 h30 =>
j11 t29 h30) (j11 (.tup []) h7)) fun j8 =>
K.guK true t4 (j8 t2 h5) (j8 (.tup []) h5))
noncomputable def r321 : K.KRun → List AV → H → K.KR := fun run args h => K.uncons args fun t0 l1 => K.uncons l1 fun t2 l3 => K.unnil l3 (
K.subK (K.binV ctx .sub 3 true t2 (.int .i64 (.ofNat 8))) t2 (.int .i64 (.ofNat 8)) fun t4 =>
K.ltK (K.binV ctx .lss 3 true t4 (.int .i64 (.ofNat 0))) t4 (.int .i64 (.ofNat 0)) fun t5 =>
K.iteV t5 (
K.unmarkK [] h fun h6 => .ok (.tup [(.int .u8 (.ofNat 2)), t0, (.int .i64 (.ofNat 0)), t2]) h6) (
K.ltK (K.binV ctx .lss 3 false t4 (.int .i64 (.ofNat 48))) t4 (.int .i64 (.ofNat 48)) fun t7 =>
K.iteV t7 (
K.oK (K.binV ctx .quo 3 true t4 (.int .i64 (.ofNat 12))) fun t8 =>
K.oK (K.binV ctx .rem 3 true t4 (.int .i64 (.ofNat 12))) fun t9 =>
K.unmarkK [] h fun h10 => .ok (.tup [(.int .u8 (.ofNat 3)), t0, t8, t9]) h10) (
K.subK (K.binV ctx .sub 3 false t4 (.int .i64 (.ofNat 48))) t4 (.int .i64 (.ofNat 48)) fun t11 =>
K.oK (K.binV ctx .quo 3 true t11 (.int .i64 (.ofNat 2))) fun t12 =>
K.oK (K.binV ctx .rem 3 true t11 (.int .i64 (.ofNat 2))) fun t13 =>
K.unmarkK [] h fun h14 => .ok (.tup [(.int .u8 (.ofNat 4)), t0, t12, t13]) h14)))
noncomputable def r322 : K.KRun → List AV → H → K.KR := fun run args h => K.unnil args (
K.bldSK ctx 439 [(0, (.int .u64 (.ofNat 14695981039346656037)))] fun t0 =>
K.boxK t0 h fun t1 h2 =>
K.unmarkK [] h2 fun h3 => .ok t1 h3)
noncomputable def r323 : K.KRun → List AV → H → K.KR := fun run args h => K.uncons args fun t0 l1 => K.uncons l1 fun t2 l3 => K.unnil l3 (
K.neK (K.binV ctx .neq 414 true t0 .nilPtr) t0 .nilPtr fun t4 =>
K.iteV t4 (
K.nilK t0 fun t5 =>
K.fldK 0 t5 fun t6 =>
K.ldK ctx 24 t6 h fun t7 =>
K.oK (K.binV ctx .xor 24 false t7 t2) fun t8 =>
K.mulK (K.binV ctx .mul 24 true t8 (.int .u64 (.ofNat 1099511628211))) t8 (.int .u64 (.ofNat 1099511628211)) fun t9 =>
K.nilK t0 fun t10 =>
K.fldK 0 t10 fun t11 =>
K.stK t11 t9 h fun h12 =>
K.unmarkK [] h12 fun h13 => .ok (.tup []) h13) (
K.unmarkK [] h fun h14 => .ok (.tup []) h14))
noncomputable def r324 : K.KRun → List AV → H → K.KR := fun run args h => K.uncons args fun t0 l1 => K.unnil l1 (
K.boxK t0 h fun t2 h3 =>
K.unmarkK [] h3 fun h4 => .ok (.func (.func 362) [] [t2]) h4)
noncomputable def r325 : K.KRun → List AV → H → K.KR := fun run args h => K.uncons args fun t0 l1 => K.unnil l1 (
K.eqK (K.binV ctx .eql 414 true t0 .nilPtr) t0 .nilPtr fun t2 =>
K.iteV t2 (
K.unmarkK [] h fun h3 => .ok (.int .u64 (.ofNat 0)) h3) (
K.nilK t0 fun t4 =>
K.fldK 0 t4 fun t5 =>
K.ldK ctx 24 t5 h fun t6 =>
K.unmarkK [] h fun h7 => .ok t6 h7))
noncomputable def r326 : K.KRun → List AV → H → K.KR := fun run args h => K.uncons args fun t0 l1 => K.uncons l1 fun t2 l3 => K.uncons l3 fun t4 l5 => K.unnil l5 (
K.nilK t0 fun t6 =>
K.fldK 5 t6 fun t7 =>
K.ldK ctx 158 t7 h fun t8 =>
K.bldSK ctx 363 [(0, t2), (1, t4)] fun t9 =>
K.bslK ctx 363 2 1 [(0, t9)] h fun t10 h11 =>
K.appK ctx 363 2 t8 t10 h11 fun t12 h13 =>
K.nilK t0 fun t14 =>
K.fldK 5 t14 fun t15 =>
K.stK t15 t12 h13 fun h16 =>
K.unmarkK [] h16 fun h17 => .ok (.tup []) h17)
noncomputable def r327 : K.KRun → List AV → H → K.KR := fun run args h => K.uncons args fun t0 l1 => K.uncons l1 fun t2 l3 => K.unnil l3 (
K.ldK ctx 106 t0 h fun t4 =>
K.nilK t4 fun t5 =>
K.fldK 0 t5 fun t6 =>
K.ldK ctx 61 t6 h fun t7 =>
K.fldK 0 t2 fun t8 =>
K.ldK ctx 3 t8 h fun t9 =>
K.fldK 1 t2 fun t10 =>
K.ldK ctx 24 t10 h fun t11 =>
K.callFK run 51 [t7, t9, t11] h fun t12 h13 =>
K.unmarkK [] h13 fun h14 => .ok t12 h14)
noncomputable def r328 : K.KRun → List AV → H → K.KR := fun run args h => K.uncons args fun t0 l1 => K.unnil l1 (
K.lenVK t0 fun t2 =>
K.ltK (K.binV ctx .lss 3 true t2 (.int .i64 (.ofNat 2))) t2 (.int .i64 (.ofNat 2)) fun t3 =>
K.iteV t3 (
K.unmarkK [] h fun h4 => .ok t0 h4) (
K.letK (fun (l5 : List AV) (m6 : List Nat) (h7 : H) => K.uncons l5 fun t9 l10 => K.unnil l10 (
K.unmarkK m6 h7 fun h11 => .ok t9 h11)) fun j8 =>
K.loopV (nat_lit 1000000) (fun s15 l12 m13 h14 => K.uncons l12 fun t16 l17 => K.uncons l17 fun t18 l19 => K.unnil l19 (
K.lenVK t16 fun t20 =>
K.ltK (K.binV ctx .lss 3 false t18 t20) t18 t20 fun t21 =>
K.iteV t21 (
K.letK (fun (l22 : List AV) (m23 : List Nat) (h24 : H) => K.uncons l22 fun t26 l27 => K.uncons l27 fun t28 l29 => K.unnil l29 (
K.addK (K.binV ctx .add 3 true t28 (.int .i64 (.ofNat 1))) t28 (.int .i64 (.ofNat 1)) fun t30 =>
s15 [t26, t30] m23 h24)) fun j25 =>
K.idxSK 1 t16 t18 fun t31 =>
K.ldK ctx 3 t31 h14 fun t32 =>
K.subK (K.binV ctx .sub 3 true t18 (.int .i64 (.ofNat 1))) t18 (.int .i64 (.ofNat 1)) fun t33 =>
K.idxSK 1 t16 t33 fun t34 =>
K.ldK ctx 3 t34 h14 fun t35 =>
K.eqK (K.binV ctx .eql 3 false t32 t35) t32 t35 fun t36 =>
K.iteV t36 (
K.slcK ctx 67 t16 (some t18) none none h14 fun t37 =>
K.letK (fun (l38 : List AV) (m39 : List Nat) (h40 : H) => K.uncons l38 fun t42 l43 => K.uncons l43 fun t44 l45 => K.unnil l45 (
K.slcK ctx 67 t42 (some t44) none none h40 fun t46 =>
K.slowK ctx run (K.opAt Go.Proofs.Tryz.f328 14 3) [56] [t46] h40 fun t47 h48 =>
K.slcK ctx 67 t42 none (some t44) none h48 fun t49 =>
K.unmarkK m39 h48 fun h50 => .ok t49 h50)) fun j41 =>
K.loopV (nat_lit 1000000) (fun s54 l51 m52 h53 => K.uncons l51 fun t55 l56 => K.uncons l56 fun t57 l58 => K.uncons l58 fun t59 l60 => K.uncons l60 fun t61 l62 => K.unnil l62 (
K.lenVK t59 fun t63 =>
K.ltK (K.binV ctx .lss 3 false t61 t63) t61 t63 fun t64 =>
K.iteV t64 (
K.letK (fun (l65 : List AV) (m66 : List Nat) (h67 : H) => K.uncons l65 fun t69 l70 => K.uncons l70 fun t71 l72 => K.uncons l72 fun t73 l74 => K.uncons l74 fun t75 l76 => K.unnil l76 (
K.addK (K.binV ctx .add 3 true t75 (.int .i64 (.ofNat 1))) t75 (.int .i64 (.ofNat 1)) fun t77 =>
s54 [t69, t71, t73, t77] m66 h67)) fun j68 =>
K.idxSK 1 t59 t61 fun t78 =>
K.ldK ctx 3 t78 h53 fun t79 =>
K.subK (K.binV ctx .sub 3 true t61 (.int .i64 (.ofNat 1))) t61 (.int .i64 (.ofNat 1)) fun t80 =>
K.idxSK 1 t59 t80 fun t81 =>
K.ldK ctx 3 t81 h53 fun t82 =>
K.neK (K.binV ctx .neq 3 false t79 t82) t79 t82 fun t83 =>
K.iteV t83 (
K.idxSK 1 t59 t61 fun t84 =>
K.ldK ctx 3 t84 h53 fun t85 =>
K.idxSK 1 t55 t57 fun t86 =>
K.stK t86 t85 h53 fun h87 =>
K.addK (K.binV ctx .add 3 true t57 (.int .i64 (.ofNat 1))) t57 (.int .i64 (.ofNat 1)) fun t88 =>
j68 [t55, t88, t59, t61] m52 h87) (
j68 [t55, t57, t59, t61] m52 h53)) (
j41 [t55, t57] m52 h53))) [t16, t18, t37, (.int .i64 (.ofNat 1))] m13 h14) (
j25 [t16, t18] m13 h14)) (
j8 [t16] m13 h14))) [t0, (.int .i64 (.ofNat 1))] [] h))
noncomputable def r329 : K.KRun → List AV → H → K.KR := fun run args h => K.uncons args fun t0 l1 => K.uncons l1 fun t2 l3 => K.unnil l3 (
K.ldK ctx 106 t0 h fun t4 =>
K.nilK t4 fun t5 =>
K.fldK 0 t5 fun t6 =>
K.ldK ctx 61 t6 h fun t7 =>
K.ldK ctx 3 t2 h fun t8 =>
K.callFK run 330 [t7, t8] h fun t9 h10 =>
K.unmarkK [] h10 fun h11 => .ok t9 h11)
noncomputable def r330 : K.KRun → List AV → H → K.KR := fun run args h => K.uncons args fun t0 l1 => K.uncons l1 fun t2 l3 => K.unnil l3 (
K.callFK run 98 [t0, t2, (.func (.func 363) [] [])] h fun t4 h5 =>
K.unmarkK [] h5 fun h6 => .ok t4 h6)
noncomputable def r331 : K.KRun → List AV → H → K.KR := fun run args h => K.uncons args fun t0 l1 => K.unnil l1 (
K.eqK (K.binV ctx .eql 61 true t0 .nilPtr) t0 .nilPtr fun t2 =>
K.iteV t2 (
K.unmarkK [] h fun h3 => .ok (.int .i64 (.ofNat 2)) h3) (
K.letK (fun (l4 : List AV) (m5 : List Nat) (h6 : H) => K.unnil l4 (
K.unmarkK m5 h6 fun h8 => .ok (.int .i64 (.ofNat 0)) h8)) fun j7 =>
K.nilK t0 fun t9 =>
K.fldK 0 t9 fun t10 =>
K.ldK ctx 163 t10 h fun t11 =>
K.callFK run 153 [t11] h fun t12 h13 =>
K.hNew h13 .marks fun r14 h15 => K.hNew h15 (.loop .ready none (K.mkT [11] [t12]) 5 r14) fun n16 h17 =>
K.rngK ctx run t12 n16 h17 (fun h19 => j7 [] (r14 :: []) h19) (fun h20 => K.unmarkK (r14 :: []) h20 fun h23 => .bad) fun i18 h21 => (Bool.rec (motive := fun _ => K.KR) (.bad) (j7 [] (r14 :: []) h21) (Nat.beq i18 0))))
noncomputable def r332 : K.KRun → List AV → H → K.KR := fun run args h => K.uncons args fun t0 l1 => K.uncons l1 fun t2 l3 => K.unnil l3 (
K.loopV (nat_lit 1000000) (fun s7 l4 m5 h6 => K.uncons l4 fun t8 l9 => K.uncons l9 fun t10 l11 => K.uncons l11 fun t12 l13 => K.unnil l13 (
K.ltK (K.binV ctx .lss 3 true t12 (.int .i64 (.ofNat 70))) t12 (.int .i64 (.ofNat 70)) fun t14 =>
K.iteV t14 (
K.ldK ctx 64 t10 h6 fun t15 =>
K.nilK t15 fun t16 =>
K.fldK 1 t16 fun t17 =>
K.idxAK 70 2 t17 t12 fun t18 =>
K.nilK t18 fun t19 =>
K.fldK 0 t19 fun t20 =>
K.ldK ctx 3 t20 h6 fun t21 =>
K.eqK (K.binV ctx .eql 3 true t21 (.int .i64 (.ofNat 0))) t21 (.int .i64 (.ofNat 0)) fun t22 =>
K.letK (fun (t23 : AV) (h24 : H) => K.letK (fun (t26 : AV) (h27 : H) => K.letK (fun (t29 : AV) (h30 : H) => K.letK (fun (t32 : AV) (h33 : H) => K.letK (fun (t35 : AV) (h36 : H) => K.letK (fun (t38 : AV) (h39 : H) => K.pickK t22 t38 (.bool false) fun t41 =>
K.letK (fun (t42 : AV) (h43 : H) => K.letK (fun (t45 : AV) (h46 : H) => K.letK (fun (t48 : AV) (h49 : H) => K.letK (fun (t51 : AV) (h52 : H) => K.pickK t41 t51 (.bool false) fun t54 =>
K.iteV t54 (
K.unmarkK m5 h52 fun h55 => .ok (.tup []) h55) (
K.addK (K.binV ctx .add 3 true t12 (.int .i64 (.ofNat 1))) t12 (.int .i64 (.ofNat 1)) fun t56 =>
s7 [t8, t10, t56] m5 h52)) fun j53 =>
K.guK true t41 (K.notK t48 fun t57 =>
j53 t57 h49) (j53 (.tup []) h49)) fun j50 =>
K.guK true t41 (K.callVK run t42 [t45] h46 fun t58 h59 =>
j50 t58 h59) (j50 (.tup []) h46)) fun j47 =>
K.guK true t41 (j47 t18 h43) (j47 (.tup []) h43)) fun j44 =>
K.guK true t41 (j44 t8 h39) (j44 (.tup []) h39)) fun j40 =>
K.guK true t22 (K.gtK (K.binV ctx .gtr 3 true t35 (.int .i64 (.ofNat 0))) t35 (.int .i64 (.ofNat 0)) fun t60 =>
j40 t60 h36) (j40 (.tup []) h36)) fun j37 =>
K.guK true t22 (K.lenVK t32 fun t61 =>
j37 t61 h33) (j37 (.tup []) h33)) fun j34 =>
K.guK true t22 (K.ldK ctx 67 t29 h30 fun t62 =>
j34 t62 h30) (j34 (.tup []) h30)) fun j31 =>
K.guK true t22 (K.fldK 1 t26 fun t63 =>
j31 t63 h27) (j31 (.tup []) h27)) fun j28 =>
K.guK true t22 (K.nilK t23 fun t64 =>
j28 t64 h24) (j28 (.tup []) h24)) fun j25 =>
K.guK true t22 (j25 t18 h6) (j25 (.tup []) h6)) (
K.unmarkK m5 h6 fun h65 => .ok (.tup []) h65))) [t0, t2, (.int .i64 (.ofNat 0))] [] h)
noncomputable def r361 : K.KRun → List AV → H → K.KR := fun run args h => K.uncons args fun t0 l1 => K.unnil l1 (
K.neK (K.binV ctx .neq 3 false t0 t0) t0 t0 fun t2 =>
K.unmarkK [] h fun h3 => .ok t2 h3)
noncomputable def r362 : K.KRun → List AV → H → K.KR := fun run args h => K.uncons args fun t0 l1 => K.uncons l1 fun t2 l3 => K.unnil l3 (
K.ldK ctx 39 t2 h fun t4 =>
K.lenVK t4 fun t5 =>
K.loopV (nat_lit 1000000) (fun s9 l6 m7 h8 => K.uncons l6 fun t10 l11 => K.uncons l11 fun t12 l13 => K.uncons l13 fun t14 l15 => K.uncons l15 fun t16 l17 => K.unnil l17 (
K.ltK (K.binV ctx .lss 3 false t16 t14) t16 t14 fun t18 =>
K.iteV t18 (
K.idxSK 1 t12 t16 fun t19 =>
K.ldK ctx 24 t19 h8 fun t20 =>
K.callVK run t10 [t20] h8 fun t21 h22 =>
K.notK t21 fun t23 =>
K.iteV t23 (
K.unmarkK m7 h22 fun h24 => .ok (.tup []) h24) (
K.addK (K.binV ctx .add 3 true t16 (.int .i64 (.ofNat 1))) t16 (.int .i64 (.ofNat 1)) fun t25 =>
s9 [t10, t12, t14, t25] m7 h22)) (
K.unmarkK m7 h8 fun h26 => .ok (.tup []) h26))) [t0, t4, t5, (.int .i64 (.ofNat 0))] [] h)
noncomputable def r363 : K.KRun → List AV → H → K.KR := fun run args h => K.uncons args fun t0 l1 => K.unnil l1 (
K.nilK t0 fun t2 =>
K.fldK 1 t2 fun t3 =>
K.ldK ctx 24 t3 h fun t4 =>
K.bldSK ctx 170 [(0, (.bool true)), (1, (.bool true)), (3, t4)] fun t5 =>
K.nilK t0 fun t6 =>
K.fldK 2 t6 fun t7 =>
K.stsK 4 t7 t5 h fun h8 =>
K.unmarkK [] h8 fun h9 => .ok (.tup []) h9)
noncomputable def y1 : K.RnF := fun run l args env h => K.uncons args fun t0 l1 => K.unnil l1 (
K.opt (K.get env 5) fun t2 => K.begR l h fun h3 =>
K.ldK ctx 175 t2 h3 fun t4 =>
K.callVK run t4 [t0] h3 fun t5 h6 =>
K.finR l h6 .ready none true)
noncomputable def y2 : K.RnF := fun run l args env h => K.uncons args fun t0 l1 => K.unnil l1 (
K.opt (K.get env 4) fun t2 => K.begR l h fun h3 =>
K.nilK t0 fun t4 =>
K.fldK 1 t4 fun t5 =>
K.ldK ctx 67 t5 h3 fun t6 =>
K.idxSK 1 t6 (.int .i64 (.ofNat 0)) fun t7 =>
K.ldK ctx 3 t7 h3 fun t8 =>
K.addK (K.binV ctx .add 3 true t8 (.int .i64 (.ofNat 1))) t8 (.int .i64 (.ofNat 1)) fun t9 =>
K.nilK t0 fun t10 =>
K.fldK 1 t10 fun t11 =>
K.ldK ctx 67 t11 h3 fun t12 =>
K.slcK ctx 67 t12 (some (.int .i64 (.ofNat 1))) none none h3 fun t13 =>
K.nilK t0 fun t14 =>
K.fldK 0 t14 fun t15 =>
K.stK t15 t9 h3 fun h16 =>
K.nilK t0 fun t17 =>
K.fldK 1 t17 fun t18 =>
K.stK t18 t13 h16 fun h19 =>
K.ldK ctx 67 t2 h19 fun t20 =>
K.bslK ctx 3 1 1 [(0, t8)] h19 fun t21 h22 =>
K.appK ctx 3 1 t20 t21 h22 fun t23 h24 =>
K.stK t2 t23 h24 fun h25 =>
K.finR l h25 .ready none true)
noncomputable def y3 : K.RnF := fun run l args env h => K.uncons args fun t0 l1 => K.unnil l1 (
K.opt (K.get env 2) fun t2 => K.begR l h fun h3 =>
K.ldK ctx 67 t2 h3 fun t4 =>
K.bslK ctx 3 1 1 [(0, t0)] h3 fun t5 h6 =>
K.appK ctx 3 1 t4 t5 h6 fun t7 h8 =>
K.stK t2 t7 h8 fun h9 =>
K.finR l h9 .ready none true)
noncomputable def y4 : K.RnF := fun run l args env h => K.uncons args fun t0 l1 => K.unnil l1 (
K.opt (K.get env 4) fun t2 => K.begR l h fun h3 =>
K.ldK ctx 174 t2 h3 fun t4 =>
K.callVK run t4 [t0] h3 fun t5 h6 =>
K.finR l h6 .ready none true)
noncomputable def y5 : K.RnF := fun run l args env h => K.uncons args fun t0 l1 => K.unnil l1 (
K.begR l h fun h2 =>
K.nilK t0 fun t3 =>
K.fldK 2 t3 fun t4 =>
K.fldK 1 t4 fun t5 =>
K.ldK ctx 4 t5 h2 fun t6 =>
K.notK t6 fun t7 =>
K.iteV t7 (
K.finR l h2 .ready none true) (
K.nilK t0 fun t8 =>
K.fldK 2 t8 fun t9 =>
K.fldK 2 t9 fun t10 =>
K.ldK ctx 4 t10 h2 fun t11 =>
K.nilK t0 fun t12 =>
K.fldK 2 t12 fun t13 =>
K.fldK 3 t13 fun t14 =>
K.ldK ctx 24 t14 h2 fun t15 =>
K.callFK run 100 [t0, t15] h2 fun t16 h17 =>
K.nilK t0 fun t18 =>
K.fldK 2 t18 fun t19 =>
K.fldK 0 t19 fun t20 =>
K.stK t20 t11 h17 fun h21 =>
K.nilK t0 fun t22 =>
K.fldK 2 t22 fun t23 =>
K.fldK 2 t23 fun t24 =>
K.stK t24 t11 h21 fun h25 =>
K.finR l h25 .ready none true))
end YtlmgehjkbgaknaaGreatDoorWkM
