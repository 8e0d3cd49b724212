/- PRINTED BY Gen2.lean (own): functions as plain texts, part 4. -/
import Derived.Test.YtjhcfoinldcaoaaGreatDoorWdCtx
namespace YtjhcfoinldcaoaaGreatDoorWdM
open Go Am
set_option maxRecDepth 100000
noncomputable def r234 : K.KRun → List AV → H → K.KR := fun run args h => K.uncons args fun t0 l1 => K.unnil l1 (
K.neK (K.binV ctx .neq 3 false t0 t0) t0 t0 fun t2 =>
K.unmarkK [] h fun h3 => .ok t2 h3)
noncomputable def r238 : K.KRun → List AV → H → K.KR := fun run args h => K.uncons args fun t0 l1 => K.uncons l1 fun t2 l3 => K.unnil l3 (
K.boxK t0 h fun t4 h5 =>
K.boxK t2 h5 fun t6 h7 =>
K.unmarkK [] h7 fun h8 => .ok (.func (.func 283) [] [t4, t6]) h8)
noncomputable def r240 : K.KRun → List AV → H → K.KR := fun run args h => K.uncons args fun t0 l1 => K.uncons l1 fun t2 l3 => K.unnil l3 (
K.letK (fun (l4 : List AV) (m5 : List Nat) (h6 : H) => K.unnil l4 (
K.unmarkK m5 h6 fun h8 => .ok (.int .i64 (.ofNat 0)) h8)) fun j7 =>
K.lenVK t2 fun t9 =>
K.loopV (nat_lit 1000000) (fun s13 l10 m11 h12 => K.uncons l10 fun t14 l15 => K.uncons l15 fun t16 l17 => K.uncons l17 fun t18 l19 => K.uncons l19 fun t20 l21 => K.unnil l21 (
K.ltK (K.binV ctx .lss 3 false t20 t18) t20 t18 fun t22 =>
K.iteV t22 (
K.idxSK 1 t16 t20 fun t23 =>
K.ldK ctx 356 t23 h12 fun t24 =>
K.callVK run t24 [t14] h12 fun t25 h26 =>
K.neK (K.binV ctx .neq 29 true t25 (.int .i64 (.ofNat 0))) t25 (.int .i64 (.ofNat 0)) fun t27 =>
K.iteV t27 (
K.unmarkK m11 h26 fun h28 => .ok t25 h28) (
K.addK (K.binV ctx .add 3 true t20 (.int .i64 (.ofNat 1))) t20 (.int .i64 (.ofNat 1)) fun t29 =>
s13 [t14, t16, t18, t29] m11 h26)) (
j7 [] m11 h12))) [t0, t2, t9, (.int .i64 (.ofNat 0))] [] h)
noncomputable def r241 : K.KRun → List AV → H → K.KR := fun run args h => K.uncons args fun t0 l1 => K.uncons l1 fun t2 l3 => K.uncons l3 fun t4 l5 => K.unnil l5 (
K.boxK t4 h fun t6 h7 =>
K.callFK run 131 [t0, t2] h7 fun t8 h9 =>
K.extK t8 0 fun t10 =>
K.extK t8 1 fun t11 =>
K.neK (K.binV ctx .neq 29 true t11 (.int .i64 (.ofNat 0))) t11 (.int .i64 (.ofNat 0)) fun t12 =>
K.iteV t12 (
K.unmarkK [] h9 fun h13 => .ok t11 h13) (
K.letK (fun (l14 : List AV) (m15 : List Nat) (h16 : H) => K.uncons l14 fun t18 l19 => K.uncons l19 fun t20 l21 => K.uncons l21 fun t22 l23 => K.uncons l23 fun t24 l25 => K.unnil l25 (
K.addK (K.binV ctx .add 3 true t22 (.int .i64 (.ofNat 1))) t22 (.int .i64 (.ofNat 1)) fun t26 =>
K.fldK 1 t20 fun t27 =>
K.ldK ctx 23 t27 h16 fun t28 =>
K.addK (K.binV ctx .add 3 true t22 (.int .i64 (.ofNat 2))) t22 (.int .i64 (.ofNat 2)) fun t29 =>
K.fldK 2 t20 fun t30 =>
K.ldK ctx 23 t30 h16 fun t31 =>
K.callFK run 238 [t22, t24] h16 fun t32 h33 =>
K.ldK ctx 23 t30 h33 fun t34 =>
K.req (AV.same t31 t34) (
K.ldK ctx 23 t27 h33 fun t35 =>
K.req (AV.same t28 t35) (
K.callFK run 238 [t26, t28] h33 fun t36 h37 =>
K.ldK ctx 23 t30 h37 fun t38 =>
K.req (AV.same t31 t38) (
K.callFK run 238 [t29, t31] h37 fun t39 h40 =>
K.bslK ctx 356 1 3 [(0, t32), (1, t36), (2, t39)] h40 fun t41 h42 =>
K.callFK run 240 [t18, t41] h42 fun t43 h44 =>
K.unmarkK m15 h44 fun h45 => .ok t43 h45))))) fun j17 =>
K.fldK 0 t6 fun t46 =>
K.ldK ctx 4 t46 h9 fun t47 =>
K.iteV t47 (
j17 [t0, t6, t10, (.int .u64 (.ofNat 1))] [] h9) (
j17 [t0, t6, t10, (.int .u64 (.ofNat 0))] [] h9)))
noncomputable def r245 : K.KRun → List AV → H → K.KR := fun run args h => K.uncons args fun t0 l1 => K.uncons l1 fun t2 l3 => K.unnil l3 (
K.subK (K.binV ctx .sub 3 true t2 (.int .i64 (.ofNat 8))) t2 (.int .i64 (.ofNat 8)) fun t4 =>
K.ltK (K.binV ctx .lss 3 true t4 (.int .i64 (.ofNat 0))) t4 (.int .i64 (.ofNat 0)) fun t5 =>
K.iteV t5 (
K.unmarkK [] h fun h6 => .ok (.tup [(.int .u8 (.ofNat 2)), t0, (.int .i64 (.ofNat 0)), t2]) h6) (
K.ltK (K.binV ctx .lss 3 false t4 (.int .i64 (.ofNat 48))) t4 (.int .i64 (.ofNat 48)) fun t7 =>
K.iteV t7 (
K.oK (K.binV ctx .quo 3 true t4 (.int .i64 (.ofNat 12))) fun t8 =>
K.oK (K.binV ctx .rem 3 true t4 (.int .i64 (.ofNat 12))) fun t9 =>
K.unmarkK [] h fun h10 => .ok (.tup [(.int .u8 (.ofNat 3)), t0, t8, t9]) h10) (
K.subK (K.binV ctx .sub 3 false t4 (.int .i64 (.ofNat 48))) t4 (.int .i64 (.ofNat 48)) fun t11 =>
K.oK (K.binV ctx .quo 3 true t11 (.int .i64 (.ofNat 2))) fun t12 =>
K.oK (K.binV ctx .rem 3 true t11 (.int .i64 (.ofNat 2))) fun t13 =>
K.unmarkK [] h fun h14 => .ok (.tup [(.int .u8 (.ofNat 4)), t0, t12, t13]) h14)))
noncomputable def r246 : K.KRun → List AV → H → K.KR := fun run args h => K.unnil args (
K.bldSK ctx 404 [(0, (.int .u64 (.ofNat 14695981039346656037)))] fun t0 =>
K.boxK t0 h fun t1 h2 =>
K.unmarkK [] h2 fun h3 => .ok t1 h3)
noncomputable def r247 : K.KRun → List AV → H → K.KR := fun run args h => K.uncons args fun t0 l1 => K.uncons l1 fun t2 l3 => K.unnil l3 (
K.neK (K.binV ctx .neq 368 true t0 .nilPtr) t0 .nilPtr fun t4 =>
K.iteV t4 (
K.nilK t0 fun t5 =>
K.fldK 0 t5 fun t6 =>
K.ldK ctx 23 t6 h fun t7 =>
K.oK (K.binV ctx .xor 23 false t7 t2) fun t8 =>
K.mulK (K.binV ctx .mul 23 true t8 (.int .u64 (.ofNat 1099511628211))) t8 (.int .u64 (.ofNat 1099511628211)) fun t9 =>
K.nilK t0 fun t10 =>
K.fldK 0 t10 fun t11 =>
K.stK t11 t9 h fun h12 =>
K.unmarkK [] h12 fun h13 => .ok (.tup []) h13) (
K.unmarkK [] h fun h14 => .ok (.tup []) h14))
noncomputable def r248 : K.KRun → List AV → H → K.KR := fun run args h => K.uncons args fun t0 l1 => K.unnil l1 (
K.boxK t0 h fun t2 h3 =>
K.unmarkK [] h3 fun h4 => .ok (.func (.func 290) [] [t2]) h4)
noncomputable def r249 : K.KRun → List AV → H → K.KR := fun run args h => K.uncons args fun t0 l1 => K.unnil l1 (
K.eqK (K.binV ctx .eql 368 true t0 .nilPtr) t0 .nilPtr fun t2 =>
K.iteV t2 (
K.unmarkK [] h fun h3 => .ok (.int .u64 (.ofNat 0)) h3) (
K.nilK t0 fun t4 =>
K.fldK 0 t4 fun t5 =>
K.ldK ctx 23 t5 h fun t6 =>
K.unmarkK [] h fun h7 => .ok t6 h7))
noncomputable def r250 : K.KRun → List AV → H → K.KR := fun run args h => K.uncons args fun t0 l1 => K.uncons l1 fun t2 l3 => K.uncons l3 fun t4 l5 => K.unnil l5 (
K.nilK t0 fun t6 =>
K.fldK 5 t6 fun t7 =>
K.ldK ctx 171 t7 h fun t8 =>
K.bldSK ctx 261 [(0, t2), (1, t4)] fun t9 =>
K.bslK ctx 261 2 1 [(0, t9)] h fun t10 h11 =>
K.appK ctx 261 2 t8 t10 h11 fun t12 h13 =>
K.nilK t0 fun t14 =>
K.fldK 5 t14 fun t15 =>
K.stK t15 t12 h13 fun h16 =>
K.unmarkK [] h16 fun h17 => .ok (.tup []) h17)
noncomputable def r251 : K.KRun → List AV → H → K.KR := fun run args h => K.uncons args fun t0 l1 => K.uncons l1 fun t2 l3 => K.unnil l3 (
K.ldK ctx 128 t0 h fun t4 =>
K.nilK t4 fun t5 =>
K.fldK 0 t5 fun t6 =>
K.ldK ctx 46 t6 h fun t7 =>
K.fldK 0 t2 fun t8 =>
K.ldK ctx 3 t8 h fun t9 =>
K.fldK 1 t2 fun t10 =>
K.ldK ctx 23 t10 h fun t11 =>
K.callFK run 39 [t7, t9, t11] h fun t12 h13 =>
K.unmarkK [] h13 fun h14 => .ok t12 h14)
noncomputable def r252 : K.KRun → List AV → H → K.KR := fun run args h => K.uncons args fun t0 l1 => K.unnil l1 (
K.lenVK t0 fun t2 =>
K.ltK (K.binV ctx .lss 3 true t2 (.int .i64 (.ofNat 2))) t2 (.int .i64 (.ofNat 2)) fun t3 =>
K.iteV t3 (
K.unmarkK [] h fun h4 => .ok t0 h4) (
K.letK (fun (l5 : List AV) (m6 : List Nat) (h7 : H) => K.uncons l5 fun t9 l10 => K.unnil l10 (
K.unmarkK m6 h7 fun h11 => .ok t9 h11)) fun j8 =>
K.loopV (nat_lit 1000000) (fun s15 l12 m13 h14 => K.uncons l12 fun t16 l17 => K.uncons l17 fun t18 l19 => K.unnil l19 (
K.lenVK t16 fun t20 =>
K.ltK (K.binV ctx .lss 3 false t18 t20) t18 t20 fun t21 =>
K.iteV t21 (
K.letK (fun (l22 : List AV) (m23 : List Nat) (h24 : H) => K.uncons l22 fun t26 l27 => K.uncons l27 fun t28 l29 => K.unnil l29 (
K.addK (K.binV ctx .add 3 true t28 (.int .i64 (.ofNat 1))) t28 (.int .i64 (.ofNat 1)) fun t30 =>
s15 [t26, t30] m23 h24)) fun j25 =>
K.idxSK 1 t16 t18 fun t31 =>
K.ldK ctx 3 t31 h14 fun t32 =>
K.subK (K.binV ctx .sub 3 true t18 (.int .i64 (.ofNat 1))) t18 (.int .i64 (.ofNat 1)) fun t33 =>
K.idxSK 1 t16 t33 fun t34 =>
K.ldK ctx 3 t34 h14 fun t35 =>
K.eqK (K.binV ctx .eql 3 false t32 t35) t32 t35 fun t36 =>
K.iteV t36 (
K.slcK ctx 85 t16 (some t18) none none h14 fun t37 =>
K.letK (fun (l38 : List AV) (m39 : List Nat) (h40 : H) => K.uncons l38 fun t42 l43 => K.uncons l43 fun t44 l45 => K.unnil l45 (
K.slcK ctx 85 t42 (some t44) none none h40 fun t46 =>
K.slowK ctx run (K.opAt Go.Proofs.Tryz.f252 14 3) [56] [t46] h40 fun t47 h48 =>
K.slcK ctx 85 t42 none (some t44) none h48 fun t49 =>
K.unmarkK m39 h48 fun h50 => .ok t49 h50)) fun j41 =>
K.loopV (nat_lit 1000000) (fun s54 l51 m52 h53 => K.uncons l51 fun t55 l56 => K.uncons l56 fun t57 l58 => K.uncons l58 fun t59 l60 => K.uncons l60 fun t61 l62 => K.unnil l62 (
K.lenVK t59 fun t63 =>
K.ltK (K.binV ctx .lss 3 false t61 t63) t61 t63 fun t64 =>
K.iteV t64 (
K.letK (fun (l65 : List AV) (m66 : List Nat) (h67 : H) => K.uncons l65 fun t69 l70 => K.uncons l70 fun t71 l72 => K.uncons l72 fun t73 l74 => K.uncons l74 fun t75 l76 => K.unnil l76 (
K.addK (K.binV ctx .add 3 true t75 (.int .i64 (.ofNat 1))) t75 (.int .i64 (.ofNat 1)) fun t77 =>
s54 [t69, t71, t73, t77] m66 h67)) fun j68 =>
K.idxSK 1 t59 t61 fun t78 =>
K.ldK ctx 3 t78 h53 fun t79 =>
K.subK (K.binV ctx .sub 3 true t61 (.int .i64 (.ofNat 1))) t61 (.int .i64 (.ofNat 1)) fun t80 =>
K.idxSK 1 t59 t80 fun t81 =>
K.ldK ctx 3 t81 h53 fun t82 =>
K.neK (K.binV ctx .neq 3 false t79 t82) t79 t82 fun t83 =>
K.iteV t83 (
K.idxSK 1 t59 t61 fun t84 =>
K.ldK ctx 3 t84 h53 fun t85 =>
K.idxSK 1 t55 t57 fun t86 =>
K.stK t86 t85 h53 fun h87 =>
K.addK (K.binV ctx .add 3 true t57 (.int .i64 (.ofNat 1))) t57 (.int .i64 (.ofNat 1)) fun t88 =>
j68 [t55, t88, t59, t61] m52 h87) (
j68 [t55, t57, t59, t61] m52 h53)) (
j41 [t55, t57] m52 h53))) [t16, t18, t37, (.int .i64 (.ofNat 1))] m13 h14) (
j25 [t16, t18] m13 h14)) (
j8 [t16] m13 h14))) [t0, (.int .i64 (.ofNat 1))] [] h))
noncomputable def r253 : K.KRun → List AV → H → K.KR := fun run args h => K.uncons args fun t0 l1 => K.uncons l1 fun t2 l3 => K.unnil l3 (
K.ldK ctx 128 t0 h fun t4 =>
K.nilK t4 fun t5 =>
K.fldK 0 t5 fun t6 =>
K.ldK ctx 46 t6 h fun t7 =>
K.ldK ctx 3 t2 h fun t8 =>
K.callFK run 81 [t7, t8] h fun t9 h10 =>
K.unmarkK [] h10 fun h11 => .ok t9 h11)
noncomputable def r255 : K.KRun → List AV → H → K.KR := fun run args h => K.uncons args fun t0 l1 => K.uncons l1 fun t2 l3 => K.unnil l3 (
K.boxK t0 h fun t4 h5 =>
K.callFK run 201 [t2] h5 fun t6 h7 =>
K.extK t6 0 fun t8 =>
K.extK t6 1 fun t9 =>
K.extK t6 2 fun t10 =>
K.notK t10 fun t11 =>
K.letK (fun (t12 : AV) (h13 : H) => K.letK (fun (t15 : AV) (h16 : H) => K.letK (fun (t18 : AV) (h19 : H) => K.letK (fun (t21 : AV) (h22 : H) => K.pickK t11 (.bool true) t21 fun t24 =>
K.iteV t24 (
K.unmarkK [] h22 fun h25 => .ok (.tup [.nilSlice, (.int .i64 (.ofNat 4))]) h25) (
K.letK (fun (l26 : List AV) (m27 : List Nat) (h28 : H) => K.uncons l26 fun t30 l31 => K.uncons l31 fun t32 l33 => K.unnil l33 (
K.ldsK ctx 53 3 t30 h28 fun t34 =>
K.callFK run 154 [t34, t32] h28 fun t35 h36 =>
K.notK t35 fun t37 =>
K.iteV t37 (
K.unmarkK m27 h36 fun h38 => .ok (.tup [.nilSlice, (.int .i64 (.ofNat 4))]) h38) (
K.unmarkK m27 h36 fun h39 => .ok (.tup [t32, (.int .i64 (.ofNat 0))]) h39))) fun j29 =>
K.loopV (nat_lit 1000000) (fun s43 l40 m41 h42 => K.uncons l40 fun t44 l45 => K.uncons l45 fun t46 l47 => K.uncons l47 fun t48 l49 => K.uncons l49 fun t50 l51 => K.unnil l51 (
K.lenVK t48 fun t52 =>
K.ltK (K.binV ctx .lss 3 false t50 t52) t50 t52 fun t53 =>
K.iteV t53 (
K.idxSK 1 t48 t50 fun t54 =>
K.ldK ctx 23 t54 h42 fun t55 =>
K.geK (K.binV ctx .geq 23 true t55 (.int .u64 (.ofNat 65536))) t55 (.int .u64 (.ofNat 65536)) fun t56 =>
K.iteV t56 (
K.unmarkK m41 h42 fun h57 => .ok (.tup [.nilSlice, (.int .i64 (.ofNat 4))]) h57) (
K.idxSK 1 t48 t50 fun t58 =>
K.ldK ctx 23 t58 h42 fun t59 =>
K.rK (convA ctx 23 3 t59 h42) fun t60 h61 =>
K.addK (K.binV ctx .add 3 true t50 (.int .i64 (.ofNat 1))) t50 (.int .i64 (.ofNat 1)) fun t62 =>
K.idxSK 1 t48 t62 fun t63 =>
K.ldK ctx 23 t63 h61 fun t64 =>
K.bldSK ctx 252 [(0, t60), (1, t64)] fun t65 =>
K.bslK ctx 252 2 1 [(0, t65)] h61 fun t66 h67 =>
K.appK ctx 252 2 t46 t66 h67 fun t68 h69 =>
K.addK (K.binV ctx .add 3 true t50 (.int .i64 (.ofNat 2))) t50 (.int .i64 (.ofNat 2)) fun t70 =>
s43 [t44, t68, t48, t70] m41 h69)) (
j29 [t44, t46] m41 h42))) [t4, .nilSlice, t8, (.int .i64 (.ofNat 1))] [] h22)) fun j23 =>
K.guK false t11 (K.neK (K.binV ctx .neq 23 false t15 t18) t15 t18 fun t71 =>
j23 t71 h19) (j23 (.tup []) h19)) fun j20 =>
K.guK false t11 (j20 t9 h16) (j20 (.tup []) h16)) fun j17 =>
K.guK false t11 (K.callFK run 198 [t12] h13 fun t72 h73 =>
j17 t72 h73) (j17 (.tup []) h13)) fun j14 =>
K.guK false t11 (j14 t8 h7) (j14 (.tup []) h7))
noncomputable def r283 : K.KRun → List AV → H → K.KR := fun run args h => K.uncons args fun t0 l1 => K.uncons l1 fun t2 l3 => K.uncons l3 fun t4 l5 => K.unnil l5 (
K.ldK ctx 3 t2 h fun t6 =>
K.ldK ctx 23 t4 h fun t7 =>
K.callFK run 284 [t0, t6, t7] h fun t8 h9 =>
K.unmarkK [] h9 fun h10 => .ok t8 h10)
noncomputable def r284 : K.KRun → List AV → H → K.KR := fun run args h => K.uncons args fun t0 l1 => K.uncons l1 fun t2 l3 => K.uncons l3 fun t4 l5 => K.unnil l5 (
K.eqK (K.binV ctx .eql 97 true t0 .nilPtr) t0 .nilPtr fun t6 =>
K.iteV t6 (
K.unmarkK [] h fun h7 => .ok (.int .i64 (.ofNat 2)) h7) (
K.letK (fun (l8 : List AV) (m9 : List Nat) (h10 : H) => K.uncons l8 fun t12 l13 => K.uncons l13 fun t14 l15 => K.uncons l15 fun t16 l17 => K.uncons l17 fun t18 l19 => K.unnil l19 (
K.iteV t18 (
K.unmarkK m9 h10 fun h20 => .ok (.int .i64 (.ofNat 8)) h20) (
K.callFK run 104 [t12, t14] h10 fun t21 h22 =>
K.eqK (K.binV ctx .eql 23 false t21 t16) t21 t16 fun t23 =>
K.iteV t23 (
K.unmarkK m9 h22 fun h24 => .ok (.int .i64 (.ofNat 0)) h24) (
K.callFK run 314 [t12, t14, t16] h22 fun t25 h26 =>
K.unmarkK m9 h26 fun h27 => .ok t25 h27)))) fun j11 =>
K.ltK (K.binV ctx .lss 3 true t2 (.int .i64 (.ofNat 0))) t2 (.int .i64 (.ofNat 0)) fun t28 =>
K.iteV t28 (
j11 [t0, t2, t4, t28] [] h) (
K.callFK run 163 [t0] h fun t29 h30 =>
K.geK (K.binV ctx .geq 3 false t2 t29) t2 t29 fun t31 =>
j11 [t0, t2, t4, t31] [] h30)))
noncomputable def r290 : K.KRun → List AV → H → K.KR := fun run args h => K.uncons args fun t0 l1 => K.uncons l1 fun t2 l3 => K.unnil l3 (
K.ldK ctx 50 t2 h fun t4 =>
K.lenVK t4 fun t5 =>
K.loopV (nat_lit 1000000) (fun s9 l6 m7 h8 => K.uncons l6 fun t10 l11 => K.uncons l11 fun t12 l13 => K.uncons l13 fun t14 l15 => K.uncons l15 fun t16 l17 => K.unnil l17 (
K.ltK (K.binV ctx .lss 3 false t16 t14) t16 t14 fun t18 =>
K.iteV t18 (
K.idxSK 1 t12 t16 fun t19 =>
K.ldK ctx 23 t19 h8 fun t20 =>
K.callVK run t10 [t20] h8 fun t21 h22 =>
K.notK t21 fun t23 =>
K.iteV t23 (
K.unmarkK m7 h22 fun h24 => .ok (.tup []) h24) (
K.addK (K.binV ctx .add 3 true t16 (.int .i64 (.ofNat 1))) t16 (.int .i64 (.ofNat 1)) fun t25 =>
s9 [t10, t12, t14, t25] m7 h22)) (
K.unmarkK m7 h8 fun h26 => .ok (.tup []) h26))) [t0, t4, t5, (.int .i64 (.ofNat 0))] [] h)
noncomputable def r314 : K.KRun → List AV → H → K.KR := fun run args h => K.uncons args fun t0 l1 => K.uncons l1 fun t2 l3 => K.uncons l3 fun t4 l5 => K.unnil l5 (
K.eqK (K.binV ctx .eql 97 true t0 .nilPtr) t0 .nilPtr fun t6 =>
K.iteV t6 (
K.unmarkK [] h fun h7 => .ok (.int .i64 (.ofNat 2)) h7) (
K.callFK run 133 [t0, t2] h fun t8 h9 =>
K.notK t8 fun t10 =>
K.iteV t10 (
K.unmarkK [] h9 fun h11 => .ok (.int .i64 (.ofNat 8)) h11) (
K.letK (fun (l12 : List AV) (m13 : List Nat) (h14 : H) => K.uncons l12 fun t16 l17 => K.uncons l17 fun t18 l19 => K.uncons l19 fun t20 l21 => K.unnil l21 (
K.nilK t16 fun t22 =>
K.fldK 1 t22 fun t23 =>
K.ldK ctx 149 t23 h14 fun t24 =>
K.slowK ctx run (K.opAt Go.Proofs.Tryz.f314 10 6) [45, 46, 47] [t24, t18, t20] h14 fun t25 h26 =>
K.unmarkK m13 h26 fun h27 => .ok (.int .i64 (.ofNat 0)) h27)) fun j15 =>
K.nilK t0 fun t28 =>
K.fldK 1 t28 fun t29 =>
K.ldK ctx 149 t29 h9 fun t30 =>
K.slowK ctx run (K.opAt Go.Proofs.Tryz.f314 5 5) [19, 20] [t30, t2] h9 fun t31 h32 =>
K.extK t31 0 fun t33 =>
K.extK t31 1 fun t34 =>
K.notK t34 fun t35 =>
K.iteV t35 (
K.nilK t0 fun t36 =>
K.fldK 2 t36 fun t37 =>
K.ldK ctx 85 t37 h32 fun t38 =>
K.lenVK t38 fun t39 =>
K.geK (K.binV ctx .geq 3 true t39 (.int .i64 (.ofNat 96))) t39 (.int .i64 (.ofNat 96)) fun t40 =>
K.iteV t40 (
K.unmarkK [] h32 fun h41 => .ok (.int .i64 (.ofNat 5)) h41) (
K.nilK t0 fun t42 =>
K.fldK 2 t42 fun t43 =>
K.ldK ctx 85 t43 h32 fun t44 =>
K.bslK ctx 3 1 1 [(0, t2)] h32 fun t45 h46 =>
K.appK ctx 3 1 t44 t45 h46 fun t47 h48 =>
K.nilK t0 fun t49 =>
K.fldK 2 t49 fun t50 =>
K.stK t50 t47 h48 fun h51 =>
j15 [t0, t2, t4] [] h51)) (
j15 [t0, t2, t4] [] h32))))
noncomputable def y1 : K.RnF := fun run l args env h => K.uncons args fun t0 l1 => K.uncons l1 fun t2 l3 => K.unnil l3 (
K.opt (K.get env 2) fun t4 => K.opt (K.get env 4) fun t5 => K.begR l h fun h6 =>
K.ldK ctx 46 t4 h6 fun t7 =>
K.callFK run 39 [t7, t0, t2] h6 fun t8 h9 =>
K.neK (K.binV ctx .neq 29 true t8 (.int .i64 (.ofNat 0))) t8 (.int .i64 (.ofNat 0)) fun t10 =>
K.iteV t10 (
K.stK t5 t8 h9 fun h11 =>
K.finR l h11 .done (some .ret) false) (
K.finR l h9 .ready none true))
noncomputable def y2 : K.RnF := fun run l args env h => K.uncons args fun t0 l1 => K.unnil l1 (
K.opt (K.get env 5) fun t2 => K.begR l h fun h3 =>
K.ldK ctx 157 t2 h3 fun t4 =>
K.callVK run t4 [t0] h3 fun t5 h6 =>
K.finR l h6 .ready none true)
noncomputable def y3 : K.RnF := fun run l args env h => K.uncons args fun t0 l1 => K.unnil l1 (
K.begR l h fun h2 =>
K.nilK t0 fun t3 =>
K.fldK 2 t3 fun t4 =>
K.fldK 1 t4 fun t5 =>
K.ldK ctx 4 t5 h2 fun t6 =>
K.notK t6 fun t7 =>
K.iteV t7 (
K.finR l h2 .ready none true) (
K.nilK t0 fun t8 =>
K.fldK 2 t8 fun t9 =>
K.fldK 2 t9 fun t10 =>
K.ldK ctx 4 t10 h2 fun t11 =>
K.nilK t0 fun t12 =>
K.fldK 2 t12 fun t13 =>
K.fldK 3 t13 fun t14 =>
K.ldK ctx 23 t14 h2 fun t15 =>
K.callFK run 69 [t0, t15] h2 fun t16 h17 =>
K.nilK t0 fun t18 =>
K.fldK 2 t18 fun t19 =>
K.fldK 0 t19 fun t20 =>
K.stK t20 t11 h17 fun h21 =>
K.nilK t0 fun t22 =>
K.fldK 2 t22 fun t23 =>
K.fldK 2 t23 fun t24 =>
K.stK t24 t11 h21 fun h25 =>
K.finR l h25 .ready none true))
noncomputable def y4 : K.RnF := fun run l args env h => K.uncons args fun t0 l1 => K.unnil l1 (
K.opt (K.get env 3) fun t2 => K.begR l h fun h3 =>
K.letK (fun (l4 : List AV) (m5 : List Nat) (h6 : H) => K.uncons l4 fun t8 l9 => K.uncons l9 fun t10 l11 => K.unnil l11 (
K.letK (fun (l12 : List AV) (m13 : List Nat) (h14 : H) => K.uncons l12 fun t16 l17 => K.unnil l17 (
K.nilK t16 fun t18 =>
K.fldK 0 t18 fun t19 =>
K.ldK ctx 23 t19 h14 fun t20 =>
K.nilK t16 fun t21 =>
K.fldK 1 t21 fun t22 =>
K.stK t22 t20 h14 fun h23 =>
K.finR l h23 .ready none true)) fun j15 =>
K.eqK (K.binV ctx .eql 5 true t10 (.int .u8 (.ofNat 2))) t10 (.int .u8 (.ofNat 2)) fun t24 =>
K.iteV t24 (
K.nilK t8 fun t25 =>
K.fldK 1 t25 fun t26 =>
K.ldK ctx 23 t26 h6 fun t27 =>
K.callFK run 69 [t8, t27] h6 fun t28 h29 =>
j15 [t8] m5 h29) (
K.eqK (K.binV ctx .eql 5 true t10 (.int .u8 (.ofNat 1))) t10 (.int .u8 (.ofNat 1)) fun t30 =>
K.letK (fun (t31 : AV) (h32 : H) => K.letK (fun (t34 : AV) (h35 : H) => K.letK (fun (t37 : AV) (h38 : H) => K.letK (fun (t40 : AV) (h41 : H) => K.letK (fun (t43 : AV) (h44 : H) => K.pickK t30 t43 (.bool false) fun t46 =>
K.iteV t46 (
K.nilK t8 fun t47 =>
K.fldK 2 t47 fun t48 =>
K.fldK 3 t48 fun t49 =>
K.ldK ctx 23 t49 h44 fun t50 =>
K.callFK run 69 [t8, t50] h44 fun t51 h52 =>
j15 [t8] m5 h52) (
K.nilK t8 fun t53 =>
K.fldK 0 t53 fun t54 =>
K.ldK ctx 23 t54 h44 fun t55 =>
K.callFK run 69 [t8, t55] h44 fun t56 h57 =>
j15 [t8] m5 h57)) fun j45 =>
K.guK true t30 (K.ldK ctx 4 t40 h41 fun t58 =>
j45 t58 h41) (j45 (.tup []) h41)) fun j42 =>
K.guK true t30 (K.fldK 1 t37 fun t59 =>
j42 t59 h38) (j42 (.tup []) h38)) fun j39 =>
K.guK true t30 (K.fldK 2 t34 fun t60 =>
j39 t60 h35) (j39 (.tup []) h35)) fun j36 =>
K.guK true t30 (K.nilK t31 fun t61 =>
j36 t61 h32) (j36 (.tup []) h32)) fun j33 =>
K.guK true t30 (j33 t8 h6) (j33 (.tup []) h6)))) fun j7 =>
K.ldK ctx 60 t2 h3 fun t62 =>
K.lenVK t62 fun t63 =>
K.gtK (K.binV ctx .gtr 3 true t63 (.int .i64 (.ofNat 0))) t63 (.int .i64 (.ofNat 0)) fun t64 =>
K.iteV t64 (
K.ldK ctx 60 t2 h3 fun t65 =>
K.idxSK 1 t65 (.int .i64 (.ofNat 0)) fun t66 =>
K.ldK ctx 5 t66 h3 fun t67 =>
K.oK (K.binV ctx .rem 5 true t67 (.int .u8 (.ofNat 3))) fun t68 =>
K.ldK ctx 60 t2 h3 fun t69 =>
K.slcK ctx 60 t69 (some (.int .i64 (.ofNat 1))) none none h3 fun t70 =>
K.stK t2 t70 h3 fun h71 =>
j7 [t0, t68] [] h71) (
j7 [t0, (.int .u8 (.ofNat 0))] [] h3))
noncomputable def y5 : K.RnF := fun run l args env h => K.uncons args fun t0 l1 => K.unnil l1 (
K.opt (K.get env 2) fun t2 => K.begR l h fun h3 =>
K.ldK ctx 85 t2 h3 fun t4 =>
K.bslK ctx 3 1 1 [(0, t0)] h3 fun t5 h6 =>
K.appK ctx 3 1 t4 t5 h6 fun t7 h8 =>
K.stK t2 t7 h8 fun h9 =>
K.finR l h9 .ready none true)
noncomputable def y6 : K.RnF := fun run l args env h => K.uncons args fun t0 l1 => K.unnil l1 (
K.opt (K.get env 4) fun t2 => K.begR l h fun h3 =>
K.ldK ctx 156 t2 h3 fun t4 =>
K.callVK run t4 [t0] h3 fun t5 h6 =>
K.finR l h6 .ready none true)
end YtjhcfoinldcaoaaGreatDoorWdM
