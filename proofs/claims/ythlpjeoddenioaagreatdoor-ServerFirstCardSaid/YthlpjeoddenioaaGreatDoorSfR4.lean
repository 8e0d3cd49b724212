/- PRINTED BY Gen2.lean (own): functions as plain texts, part 4. -/
import Derived.Test.YthlpjeoddenioaaGreatDoorSfCtx
namespace YthlpjeoddenioaaGreatDoorSfM
open Go Am
set_option maxRecDepth 100000
noncomputable def r167 : K.KRun → List AV → H → K.KR := fun run args h => K.uncons args fun t0 l1 => K.unnil l1 (
K.letK (fun (l2 : List AV) (m3 : List Nat) (h4 : H) => K.uncons l2 fun t6 l7 => K.uncons l7 fun t8 l9 => K.unnil l9 (
K.letK (fun (l10 : List AV) (m11 : List Nat) (h12 : H) => K.uncons l10 fun t14 l15 => K.uncons l15 fun t16 l17 => K.unnil l17 (
K.letK (fun (l18 : List AV) (m19 : List Nat) (h20 : H) => K.uncons l18 fun t22 l23 => K.uncons l23 fun t24 l25 => K.unnil l25 (
K.rK (convA ctx 23 5 t22 h20) fun t26 h27 =>
K.idxTK (.str [0, 1, 2, 2, 3, 3, 3, 3, 4, 4, 4, 4, 4, 4, 4, 4, 5, 5, 5, 5, 5, 5, 5, 5, 5, 5, 5, 5, 5, 5, 5, 5, 6, 6, 6, 6, 6, 6, 6, 6, 6, 6, 6, 6, 6, 6, 6, 6, 6, 6, 6, 6, 6, 6, 6, 6, 6, 6, 6, 6, 6, 6, 6, 6, 7, 7, 7, 7, 7, 7, 7, 7, 7, 7, 7, 7, 7, 7, 7, 7, 7, 7, 7, 7, 7, 7, 7, 7, 7, 7, 7, 7, 7, 7, 7, 7, 7, 7, 7, 7, 7, 7, 7, 7, 7, 7, 7, 7, 7, 7, 7, 7, 7, 7, 7, 7, 7, 7, 7, 7, 7, 7, 7, 7, 7, 7, 7, 7, 8, 8, 8, 8, 8, 8, 8, 8, 8, 8, 8, 8, 8, 8, 8, 8, 8, 8, 8, 8, 8, 8, 8, 8, 8, 8, 8, 8, 8, 8, 8, 8, 8, 8, 8, 8, 8, 8, 8, 8, 8, 8, 8, 8, 8, 8, 8, 8, 8, 8, 8, 8, 8, 8, 8, 8, 8, 8, 8, 8, 8, 8, 8, 8, 8, 8, 8, 8, 8, 8, 8, 8, 8, 8, 8, 8, 8, 8, 8, 8, 8, 8, 8, 8, 8, 8, 8, 8, 8, 8, 8, 8, 8, 8, 8, 8, 8, 8, 8, 8, 8, 8, 8, 8, 8, 8, 8, 8, 8, 8, 8, 8, 8, 8, 8, 8, 8, 8, 8, 8, 8, 8, 8, 8, 8, 8, 8, 8]) t26 fun t28 =>
K.rK (convA ctx 5 3 t28 h27) fun t29 h30 =>
K.addK (K.binV ctx .add 3 false t24 t29) t24 t29 fun t31 =>
K.unmarkK m19 h30 fun h32 => .ok t31 h32)) fun j21 =>
K.geK (K.binV ctx .geq 23 true t14 (.int .u64 (.ofNat 256))) t14 (.int .u64 (.ofNat 256)) fun t33 =>
K.iteV t33 (
K.oK (K.binV ctx .shr 23 true t14 (.int .u64 (.ofNat 8))) fun t34 =>
K.addK (K.binV ctx .add 3 true t16 (.int .i64 (.ofNat 8))) t16 (.int .i64 (.ofNat 8)) fun t35 =>
j21 [t34, t35] m11 h12) (
j21 [t14, t16] m11 h12))) fun j13 =>
K.geK (K.binV ctx .geq 23 true t6 (.int .u64 (.ofNat 65536))) t6 (.int .u64 (.ofNat 65536)) fun t36 =>
K.iteV t36 (
K.oK (K.binV ctx .shr 23 true t6 (.int .u64 (.ofNat 16))) fun t37 =>
K.addK (K.binV ctx .add 3 true t8 (.int .i64 (.ofNat 16))) t8 (.int .i64 (.ofNat 16)) fun t38 =>
j13 [t37, t38] m3 h4) (
j13 [t6, t8] m3 h4))) fun j5 =>
K.geK (K.binV ctx .geq 23 true t0 (.int .u64 (.ofNat 4294967296))) t0 (.int .u64 (.ofNat 4294967296)) fun t39 =>
K.iteV t39 (
K.oK (K.binV ctx .shr 23 true t0 (.int .u64 (.ofNat 32))) fun t40 =>
j5 [t40, (.int .i64 (.ofNat 32))] [] h) (
j5 [t0, (.int .i64 (.ofNat 0))] [] h))
noncomputable def r171 : K.KRun → List AV → H → K.KR := fun run args h => K.uncons args fun t0 l1 => K.uncons l1 fun t2 l3 => K.unnil l3 (
K.boxK t0 h fun t4 h5 =>
K.boxK t2 h5 fun t6 h7 =>
K.unmarkK [] h7 fun h8 => .ok (.func (.func 231) [] [t4, t6]) h8)
noncomputable def r173 : K.KRun → List AV → H → K.KR := fun run args h => K.uncons args fun t0 l1 => K.uncons l1 fun t2 l3 => K.unnil l3 (
K.letK (fun (l4 : List AV) (m5 : List Nat) (h6 : H) => K.unnil l4 (
K.unmarkK m5 h6 fun h8 => .ok (.int .i64 (.ofNat 0)) h8)) fun j7 =>
K.lenVK t2 fun t9 =>
K.loopV (nat_lit 1000000) (fun s13 l10 m11 h12 => K.uncons l10 fun t14 l15 => K.uncons l15 fun t16 l17 => K.uncons l17 fun t18 l19 => K.uncons l19 fun t20 l21 => K.unnil l21 (
K.ltK (K.binV ctx .lss 3 false t20 t18) t20 t18 fun t22 =>
K.iteV t22 (
K.idxSK 1 t16 t20 fun t23 =>
K.ldK ctx 297 t23 h12 fun t24 =>
K.callVK run t24 [t14] h12 fun t25 h26 =>
K.neK (K.binV ctx .neq 35 true t25 (.int .i64 (.ofNat 0))) t25 (.int .i64 (.ofNat 0)) fun t27 =>
K.iteV t27 (
K.unmarkK m11 h26 fun h28 => .ok t25 h28) (
K.addK (K.binV ctx .add 3 true t20 (.int .i64 (.ofNat 1))) t20 (.int .i64 (.ofNat 1)) fun t29 =>
s13 [t14, t16, t18, t29] m11 h26)) (
j7 [] m11 h12))) [t0, t2, t9, (.int .i64 (.ofNat 0))] [] h)
noncomputable def r174 : K.KRun → List AV → H → K.KR := fun run args h => K.uncons args fun t0 l1 => K.uncons l1 fun t2 l3 => K.uncons l3 fun t4 l5 => K.unnil l5 (
K.boxK t4 h fun t6 h7 =>
K.callFK run 99 [t0, t2] h7 fun t8 h9 =>
K.extK t8 0 fun t10 =>
K.extK t8 1 fun t11 =>
K.neK (K.binV ctx .neq 35 true t11 (.int .i64 (.ofNat 0))) t11 (.int .i64 (.ofNat 0)) fun t12 =>
K.iteV t12 (
K.unmarkK [] h9 fun h13 => .ok t11 h13) (
K.letK (fun (l14 : List AV) (m15 : List Nat) (h16 : H) => K.uncons l14 fun t18 l19 => K.uncons l19 fun t20 l21 => K.uncons l21 fun t22 l23 => K.uncons l23 fun t24 l25 => K.unnil l25 (
K.addK (K.binV ctx .add 3 true t22 (.int .i64 (.ofNat 1))) t22 (.int .i64 (.ofNat 1)) fun t26 =>
K.fldK 1 t20 fun t27 =>
K.ldK ctx 23 t27 h16 fun t28 =>
K.addK (K.binV ctx .add 3 true t22 (.int .i64 (.ofNat 2))) t22 (.int .i64 (.ofNat 2)) fun t29 =>
K.fldK 2 t20 fun t30 =>
K.ldK ctx 23 t30 h16 fun t31 =>
K.callFK run 171 [t22, t24] h16 fun t32 h33 =>
K.ldK ctx 23 t30 h33 fun t34 =>
K.req (AV.same t31 t34) (
K.ldK ctx 23 t27 h33 fun t35 =>
K.req (AV.same t28 t35) (
K.callFK run 171 [t26, t28] h33 fun t36 h37 =>
K.ldK ctx 23 t30 h37 fun t38 =>
K.req (AV.same t31 t38) (
K.callFK run 171 [t29, t31] h37 fun t39 h40 =>
K.bslK ctx 297 1 3 [(0, t32), (1, t36), (2, t39)] h40 fun t41 h42 =>
K.callFK run 173 [t18, t41] h42 fun t43 h44 =>
K.unmarkK m15 h44 fun h45 => .ok t43 h45))))) fun j17 =>
K.fldK 0 t6 fun t46 =>
K.ldK ctx 4 t46 h9 fun t47 =>
K.iteV t47 (
j17 [t0, t6, t10, (.int .u64 (.ofNat 1))] [] h9) (
j17 [t0, t6, t10, (.int .u64 (.ofNat 0))] [] h9)))
noncomputable def r175N (N : Nat) : K.KRun → List AV → H → K.KR := fun run args h => K.uncons args fun t0 l1 => K.uncons l1 fun t2 l3 => K.unnil l3 (
K.callFK run 99 [t0, t2] h fun t4 h5 =>
K.extK t4 0 fun t6 =>
K.extK t4 1 fun t7 =>
K.neK (K.binV ctx .neq 35 true t7 (.int .i64 (.ofNat 0))) t7 (.int .i64 (.ofNat 0)) fun t8 =>
K.iteV t8 (
K.unmarkK [] h5 fun h9 => .ok t7 h9) (
K.letK (fun (l10 : List AV) (m11 : List Nat) (h12 : H) => K.uncons l10 fun t14 l15 => K.uncons l15 fun t16 l17 => K.uncons l17 fun t18 l19 => K.unnil l19 (
K.letK (fun (l20 : List AV) (m21 : List Nat) (h22 : H) => K.uncons l20 fun t24 l25 => K.uncons l25 fun t26 l27 => K.unnil l27 (
K.callFK run 173 [t24, t26] h22 fun t28 h29 =>
K.unmarkK m21 h29 fun h30 => .ok t28 h30)) fun j23 =>
K.loopV N (fun s34 l31 m32 h33 => K.uncons l31 fun t35 l36 => K.uncons l36 fun t37 l38 => K.uncons l38 fun t39 l40 => K.uncons l40 fun t41 l42 => K.unnil l42 (
K.ltK (K.binV ctx .lss 3 true t41 (.int .i64 (.ofNat 4))) t41 (.int .i64 (.ofNat 4)) fun t43 =>
K.iteV t43 (
K.callFK run 156 [t37, t41] h33 fun t44 h45 =>
K.callFK run 171 [t44, (.int .u64 (.ofNat 0))] h45 fun t46 h47 =>
K.addK (K.binV ctx .add 3 true t44 (.int .i64 (.ofNat 1))) t44 (.int .i64 (.ofNat 1)) fun t48 =>
K.callFK run 171 [t48, (.int .u64 (.ofNat 0))] h47 fun t49 h50 =>
K.bslK ctx 297 1 2 [(0, t46), (1, t49)] h50 fun t51 h52 =>
K.appK ctx 297 1 t39 t51 h52 fun t53 h54 =>
K.addK (K.binV ctx .add 3 true t41 (.int .i64 (.ofNat 1))) t41 (.int .i64 (.ofNat 1)) fun t55 =>
s34 [t35, t37, t53, t55] m32 h54) (
j23 [t35, t39] m32 h33))) [t14, t16, t18, (.int .i64 (.ofNat 0))] m11 h12)) fun j13 =>
K.loopV N (fun s59 l56 m57 h58 => K.uncons l56 fun t60 l61 => K.uncons l61 fun t62 l63 => K.uncons l63 fun t64 l65 => K.uncons l65 fun t66 l67 => K.unnil l67 (
K.ltK (K.binV ctx .lss 3 true t66 (.int .i64 (.ofNat 4))) t66 (.int .i64 (.ofNat 4)) fun t68 =>
K.iteV t68 (
K.callFK run 100 [t62, t66] h58 fun t69 h70 =>
K.callFK run 171 [t69, (.int .u64 (.ofNat 0))] h70 fun t71 h72 =>
K.bslK ctx 297 1 1 [(0, t71)] h72 fun t73 h74 =>
K.appK ctx 297 1 t64 t73 h74 fun t75 h76 =>
K.addK (K.binV ctx .add 3 true t66 (.int .i64 (.ofNat 1))) t66 (.int .i64 (.ofNat 1)) fun t77 =>
s59 [t60, t62, t75, t77] m57 h76) (
j13 [t60, t62, t64] m57 h58))) [t0, t2, .nilSlice, (.int .i64 (.ofNat 0))] [] h5))
noncomputable def r175 : K.KRun → List AV → H → K.KR := r175N (nat_lit 1000000)
noncomputable def r178 : K.KRun → List AV → H → K.KR := fun run args h => K.uncons args fun t0 l1 => K.uncons l1 fun t2 l3 => K.unnil l3 (
K.subK (K.binV ctx .sub 3 true t2 (.int .i64 (.ofNat 8))) t2 (.int .i64 (.ofNat 8)) fun t4 =>
K.ltK (K.binV ctx .lss 3 true t4 (.int .i64 (.ofNat 0))) t4 (.int .i64 (.ofNat 0)) fun t5 =>
K.iteV t5 (
K.unmarkK [] h fun h6 => .ok (.tup [(.int .u8 (.ofNat 2)), t0, (.int .i64 (.ofNat 0)), t2]) h6) (
K.ltK (K.binV ctx .lss 3 false t4 (.int .i64 (.ofNat 48))) t4 (.int .i64 (.ofNat 48)) fun t7 =>
K.iteV t7 (
K.oK (K.binV ctx .quo 3 true t4 (.int .i64 (.ofNat 12))) fun t8 =>
K.oK (K.binV ctx .rem 3 true t4 (.int .i64 (.ofNat 12))) fun t9 =>
K.unmarkK [] h fun h10 => .ok (.tup [(.int .u8 (.ofNat 3)), t0, t8, t9]) h10) (
K.subK (K.binV ctx .sub 3 false t4 (.int .i64 (.ofNat 48))) t4 (.int .i64 (.ofNat 48)) fun t11 =>
K.oK (K.binV ctx .quo 3 true t11 (.int .i64 (.ofNat 2))) fun t12 =>
K.oK (K.binV ctx .rem 3 true t11 (.int .i64 (.ofNat 2))) fun t13 =>
K.unmarkK [] h fun h14 => .ok (.tup [(.int .u8 (.ofNat 4)), t0, t12, t13]) h14)))
noncomputable def r179 : K.KRun → List AV → H → K.KR := fun run args h => K.unnil args (
K.bldSK ctx 357 [(0, (.int .u64 (.ofNat 14695981039346656037)))] fun t0 =>
K.boxK t0 h fun t1 h2 =>
K.unmarkK [] h2 fun h3 => .ok t1 h3)
noncomputable def r180 : K.KRun → List AV → H → K.KR := fun run args h => K.uncons args fun t0 l1 => K.uncons l1 fun t2 l3 => K.unnil l3 (
K.neK (K.binV ctx .neq 309 true t0 .nilPtr) t0 .nilPtr fun t4 =>
K.iteV t4 (
K.nilK t0 fun t5 =>
K.fldK 0 t5 fun t6 =>
K.ldK ctx 23 t6 h fun t7 =>
K.oK (K.binV ctx .xor 23 false t7 t2) fun t8 =>
K.mulK (K.binV ctx .mul 23 true t8 (.int .u64 (.ofNat 1099511628211))) t8 (.int .u64 (.ofNat 1099511628211)) fun t9 =>
K.nilK t0 fun t10 =>
K.fldK 0 t10 fun t11 =>
K.stK t11 t9 h fun h12 =>
K.unmarkK [] h12 fun h13 => .ok (.tup []) h13) (
K.unmarkK [] h fun h14 => .ok (.tup []) h14))
noncomputable def r181 : K.KRun → List AV → H → K.KR := fun run args h => K.uncons args fun t0 l1 => K.unnil l1 (
K.boxK t0 h fun t2 h3 =>
K.unmarkK [] h3 fun h4 => .ok (.func (.func 239) [] [t2]) h4)
noncomputable def r182 : K.KRun → List AV → H → K.KR := fun run args h => K.uncons args fun t0 l1 => K.unnil l1 (
K.eqK (K.binV ctx .eql 309 true t0 .nilPtr) t0 .nilPtr fun t2 =>
K.iteV t2 (
K.unmarkK [] h fun h3 => .ok (.int .u64 (.ofNat 0)) h3) (
K.nilK t0 fun t4 =>
K.fldK 0 t4 fun t5 =>
K.ldK ctx 23 t5 h fun t6 =>
K.unmarkK [] h fun h7 => .ok t6 h7))
noncomputable def r183 : K.KRun → List AV → H → K.KR := fun run args h => K.uncons args fun t0 l1 => K.uncons l1 fun t2 l3 => K.uncons l3 fun t4 l5 => K.unnil l5 (
K.nilK t0 fun t6 =>
K.fldK 5 t6 fun t7 =>
K.ldK ctx 152 t7 h fun t8 =>
K.bldSK ctx 254 [(0, t2), (1, t4)] fun t9 =>
K.bslK ctx 254 2 1 [(0, t9)] h fun t10 h11 =>
K.appK ctx 254 2 t8 t10 h11 fun t12 h13 =>
K.nilK t0 fun t14 =>
K.fldK 5 t14 fun t15 =>
K.stK t15 t12 h13 fun h16 =>
K.unmarkK [] h16 fun h17 => .ok (.tup []) h17)
noncomputable def r184 : K.KRun → List AV → H → K.KR := fun run args h => K.uncons args fun t0 l1 => K.uncons l1 fun t2 l3 => K.unnil l3 (
K.ldK ctx 119 t0 h fun t4 =>
K.nilK t4 fun t5 =>
K.fldK 0 t5 fun t6 =>
K.ldK ctx 38 t6 h fun t7 =>
K.fldK 0 t2 fun t8 =>
K.ldK ctx 3 t8 h fun t9 =>
K.fldK 1 t2 fun t10 =>
K.ldK ctx 23 t10 h fun t11 =>
K.callFK run 27 [t7, t9, t11] h fun t12 h13 =>
K.unmarkK [] h13 fun h14 => .ok t12 h14)
noncomputable def r185N (N : Nat) : K.KRun → List AV → H → K.KR := fun run args h => K.uncons args fun t0 l1 => K.unnil l1 (
K.lenVK t0 fun t2 =>
K.ltK (K.binV ctx .lss 3 true t2 (.int .i64 (.ofNat 2))) t2 (.int .i64 (.ofNat 2)) fun t3 =>
K.iteV t3 (
K.unmarkK [] h fun h4 => .ok t0 h4) (
K.letK (fun (l5 : List AV) (m6 : List Nat) (h7 : H) => K.uncons l5 fun t9 l10 => K.unnil l10 (
K.unmarkK m6 h7 fun h11 => .ok t9 h11)) fun j8 =>
K.loopV N (fun s15 l12 m13 h14 => K.uncons l12 fun t16 l17 => K.uncons l17 fun t18 l19 => K.unnil l19 (
K.lenVK t16 fun t20 =>
K.ltK (K.binV ctx .lss 3 false t18 t20) t18 t20 fun t21 =>
K.iteV t21 (
K.letK (fun (l22 : List AV) (m23 : List Nat) (h24 : H) => K.uncons l22 fun t26 l27 => K.uncons l27 fun t28 l29 => K.unnil l29 (
K.addK (K.binV ctx .add 3 true t28 (.int .i64 (.ofNat 1))) t28 (.int .i64 (.ofNat 1)) fun t30 =>
s15 [t26, t30] m23 h24)) fun j25 =>
K.idxSK 1 t16 t18 fun t31 =>
K.ldK ctx 3 t31 h14 fun t32 =>
K.subK (K.binV ctx .sub 3 true t18 (.int .i64 (.ofNat 1))) t18 (.int .i64 (.ofNat 1)) fun t33 =>
K.idxSK 1 t16 t33 fun t34 =>
K.ldK ctx 3 t34 h14 fun t35 =>
K.eqK (K.binV ctx .eql 3 false t32 t35) t32 t35 fun t36 =>
K.iteV t36 (
K.slcK ctx 95 t16 (some t18) none none h14 fun t37 =>
K.letK (fun (l38 : List AV) (m39 : List Nat) (h40 : H) => K.uncons l38 fun t42 l43 => K.uncons l43 fun t44 l45 => K.unnil l45 (
K.slcK ctx 95 t42 (some t44) none none h40 fun t46 =>
K.slowK ctx run (K.opAt Go.Proofs.Tryz.f185 14 3) [56] [t46] h40 fun t47 h48 =>
K.slcK ctx 95 t42 none (some t44) none h48 fun t49 =>
K.unmarkK m39 h48 fun h50 => .ok t49 h50)) fun j41 =>
K.loopV N (fun s54 l51 m52 h53 => K.uncons l51 fun t55 l56 => K.uncons l56 fun t57 l58 => K.uncons l58 fun t59 l60 => K.uncons l60 fun t61 l62 => K.unnil l62 (
K.lenVK t59 fun t63 =>
K.ltK (K.binV ctx .lss 3 false t61 t63) t61 t63 fun t64 =>
K.iteV t64 (
K.letK (fun (l65 : List AV) (m66 : List Nat) (h67 : H) => K.uncons l65 fun t69 l70 => K.uncons l70 fun t71 l72 => K.uncons l72 fun t73 l74 => K.uncons l74 fun t75 l76 => K.unnil l76 (
K.addK (K.binV ctx .add 3 true t75 (.int .i64 (.ofNat 1))) t75 (.int .i64 (.ofNat 1)) fun t77 =>
s54 [t69, t71, t73, t77] m66 h67)) fun j68 =>
K.idxSK 1 t59 t61 fun t78 =>
K.ldK ctx 3 t78 h53 fun t79 =>
K.subK (K.binV ctx .sub 3 true t61 (.int .i64 (.ofNat 1))) t61 (.int .i64 (.ofNat 1)) fun t80 =>
K.idxSK 1 t59 t80 fun t81 =>
K.ldK ctx 3 t81 h53 fun t82 =>
K.neK (K.binV ctx .neq 3 false t79 t82) t79 t82 fun t83 =>
K.iteV t83 (
K.idxSK 1 t59 t61 fun t84 =>
K.ldK ctx 3 t84 h53 fun t85 =>
K.idxSK 1 t55 t57 fun t86 =>
K.stK t86 t85 h53 fun h87 =>
K.addK (K.binV ctx .add 3 true t57 (.int .i64 (.ofNat 1))) t57 (.int .i64 (.ofNat 1)) fun t88 =>
j68 [t55, t88, t59, t61] m52 h87) (
j68 [t55, t57, t59, t61] m52 h53)) (
j41 [t55, t57] m52 h53))) [t16, t18, t37, (.int .i64 (.ofNat 1))] m13 h14) (
j25 [t16, t18] m13 h14)) (
j8 [t16] m13 h14))) [t0, (.int .i64 (.ofNat 1))] [] h))
noncomputable def r185 : K.KRun → List AV → H → K.KR := r185N (nat_lit 1000000)
noncomputable def r186 : K.KRun → List AV → H → K.KR := fun run args h => K.uncons args fun t0 l1 => K.uncons l1 fun t2 l3 => K.unnil l3 (
K.ldK ctx 119 t0 h fun t4 =>
K.nilK t4 fun t5 =>
K.fldK 0 t5 fun t6 =>
K.ldK ctx 38 t6 h fun t7 =>
K.ldK ctx 3 t2 h fun t8 =>
K.callFK run 187 [t7, t8] h fun t9 h10 =>
K.unmarkK [] h10 fun h11 => .ok t9 h11)
noncomputable def r187 : K.KRun → List AV → H → K.KR := fun run args h => K.uncons args fun t0 l1 => K.uncons l1 fun t2 l3 => K.unnil l3 (
K.callFK run 50 [t0, t2, (.func (.func 240) [] [])] h fun t4 h5 =>
K.unmarkK [] h5 fun h6 => .ok t4 h6)
noncomputable def r188 : K.KRun → List AV → H → K.KR := fun run args h => K.uncons args fun t0 l1 => K.unnil l1 (
K.eqK (K.binV ctx .eql 38 true t0 .nilPtr) t0 .nilPtr fun t2 =>
K.iteV t2 (
K.unmarkK [] h fun h3 => .ok (.int .i64 (.ofNat 2)) h3) (
K.letK (fun (l4 : List AV) (m5 : List Nat) (h6 : H) => K.unnil l4 (
K.unmarkK m5 h6 fun h8 => .ok (.int .i64 (.ofNat 0)) h8)) fun j7 =>
K.nilK t0 fun t9 =>
K.fldK 0 t9 fun t10 =>
K.ldK ctx 125 t10 h fun t11 =>
K.callFK run 66 [t11] h fun t12 h13 =>
K.hNew h13 .marks fun r14 h15 => K.hNew h15 (.loop .ready none (K.mkT [11] [t12]) 5 r14) fun n16 h17 =>
K.rngK ctx run t12 n16 h17 (fun h19 => j7 [] (r14 :: []) h19) (fun h20 => K.unmarkK (r14 :: []) h20 fun h23 => .bad) fun i18 h21 => (Bool.rec (motive := fun _ => K.KR) (.bad) (j7 [] (r14 :: []) h21) (Nat.beq i18 0))))
noncomputable def r189 : K.KRun → List AV → H → K.KR := fun run args h => K.uncons args fun t0 l1 => K.uncons l1 fun t2 l3 => K.unnil l3 (
K.loopV (nat_lit 1000000) (fun s7 l4 m5 h6 => K.uncons l4 fun t8 l9 => K.uncons l9 fun t10 l11 => K.uncons l11 fun t12 l13 => K.unnil l13 (
K.ltK (K.binV ctx .lss 3 true t12 (.int .i64 (.ofNat 70))) t12 (.int .i64 (.ofNat 70)) fun t14 =>
K.iteV t14 (
K.ldK ctx 72 t10 h6 fun t15 =>
K.nilK t15 fun t16 =>
K.fldK 1 t16 fun t17 =>
K.idxAK 70 2 t17 t12 fun t18 =>
K.nilK t18 fun t19 =>
K.fldK 0 t19 fun t20 =>
K.ldK ctx 3 t20 h6 fun t21 =>
K.eqK (K.binV ctx .eql 3 true t21 (.int .i64 (.ofNat 0))) t21 (.int .i64 (.ofNat 0)) fun t22 =>
K.letK (fun (t23 : AV) (h24 : H) => K.letK (fun (t26 : AV) (h27 : H) => K.letK (fun (t29 : AV) (h30 : H) => K.letK (fun (t32 : AV) (h33 : H) => K.letK (fun (t35 : AV) (h36 : H) => K.letK (fun (t38 : AV) (h39 : H) => K.pickK t22 t38 (.bool false) fun t41 =>
K.letK (fun (t42 : AV) (h43 : H) => K.letK (fun (t45 : AV) (h46 : H) => K.letK (fun (t48 : AV) (h49 : H) => K.letK (fun (t51 : AV) (h52 : H) => K.pickK t41 t51 (.bool false) fun t54 =>
K.iteV t54 (
K.unmarkK m5 h52 fun h55 => .ok (.tup []) h55) (
K.addK (K.binV ctx .add 3 true t12 (.int .i64 (.ofNat 1))) t12 (.int .i64 (.ofNat 1)) fun t56 =>
s7 [t8, t10, t56] m5 h52)) fun j53 =>
K.guK true t41 (K.notK t48 fun t57 =>
j53 t57 h49) (j53 (.tup []) h49)) fun j50 =>
K.guK true t41 (K.callVK run t42 [t45] h46 fun t58 h59 =>
j50 t58 h59) (j50 (.tup []) h46)) fun j47 =>
K.guK true t41 (j47 t18 h43) (j47 (.tup []) h43)) fun j44 =>
K.guK true t41 (j44 t8 h39) (j44 (.tup []) h39)) fun j40 =>
K.guK true t22 (K.gtK (K.binV ctx .gtr 3 true t35 (.int .i64 (.ofNat 0))) t35 (.int .i64 (.ofNat 0)) fun t60 =>
j40 t60 h36) (j40 (.tup []) h36)) fun j37 =>
K.guK true t22 (K.lenVK t32 fun t61 =>
j37 t61 h33) (j37 (.tup []) h33)) fun j34 =>
K.guK true t22 (K.ldK ctx 95 t29 h30 fun t62 =>
j34 t62 h30) (j34 (.tup []) h30)) fun j31 =>
K.guK true t22 (K.fldK 1 t26 fun t63 =>
j31 t63 h27) (j31 (.tup []) h27)) fun j28 =>
K.guK true t22 (K.nilK t23 fun t64 =>
j28 t64 h24) (j28 (.tup []) h24)) fun j25 =>
K.guK true t22 (j25 t18 h6) (j25 (.tup []) h6)) (
K.unmarkK m5 h6 fun h65 => .ok (.tup []) h65))) [t0, t2, (.int .i64 (.ofNat 0))] [] h)
noncomputable def r217 : K.KRun → List AV → H → K.KR := fun run args h => K.uncons args fun t0 l1 => K.unnil l1 (
K.neK (K.binV ctx .neq 3 false t0 t0) t0 t0 fun t2 =>
K.unmarkK [] h fun h3 => .ok t2 h3)
noncomputable def r231 : K.KRun → List AV → H → K.KR := fun run args h => K.uncons args fun t0 l1 => K.uncons l1 fun t2 l3 => K.uncons l3 fun t4 l5 => K.unnil l5 (
K.ldK ctx 3 t2 h fun t6 =>
K.ldK ctx 23 t4 h fun t7 =>
K.callFK run 232 [t0, t6, t7] h fun t8 h9 =>
K.unmarkK [] h9 fun h10 => .ok t8 h10)
noncomputable def r232 : K.KRun → List AV → H → K.KR := fun run args h => K.uncons args fun t0 l1 => K.uncons l1 fun t2 l3 => K.uncons l3 fun t4 l5 => K.unnil l5 (
K.eqK (K.binV ctx .eql 101 true t0 .nilPtr) t0 .nilPtr fun t6 =>
K.iteV t6 (
K.unmarkK [] h fun h7 => .ok (.int .i64 (.ofNat 2)) h7) (
K.letK (fun (l8 : List AV) (m9 : List Nat) (h10 : H) => K.uncons l8 fun t12 l13 => K.uncons l13 fun t14 l15 => K.uncons l15 fun t16 l17 => K.uncons l17 fun t18 l19 => K.unnil l19 (
K.iteV t18 (
K.unmarkK m9 h10 fun h20 => .ok (.int .i64 (.ofNat 8)) h20) (
K.callFK run 80 [t12, t14] h10 fun t21 h22 =>
K.eqK (K.binV ctx .eql 23 false t21 t16) t21 t16 fun t23 =>
K.iteV t23 (
K.unmarkK m9 h22 fun h24 => .ok (.int .i64 (.ofNat 0)) h24) (
K.callFK run 270 [t12, t14, t16] h22 fun t25 h26 =>
K.unmarkK m9 h26 fun h27 => .ok t25 h27)))) fun j11 =>
K.ltK (K.binV ctx .lss 3 true t2 (.int .i64 (.ofNat 0))) t2 (.int .i64 (.ofNat 0)) fun t28 =>
K.iteV t28 (
j11 [t0, t2, t4, t28] [] h) (
K.callFK run 127 [t0] h fun t29 h30 =>
K.geK (K.binV ctx .geq 3 false t2 t29) t2 t29 fun t31 =>
j11 [t0, t2, t4, t31] [] h30)))
noncomputable def r239 : K.KRun → List AV → H → K.KR := fun run args h => K.uncons args fun t0 l1 => K.uncons l1 fun t2 l3 => K.unnil l3 (
K.ldK ctx 28 t2 h fun t4 =>
K.lenVK t4 fun t5 =>
K.loopV (nat_lit 1000000) (fun s9 l6 m7 h8 => K.uncons l6 fun t10 l11 => K.uncons l11 fun t12 l13 => K.uncons l13 fun t14 l15 => K.uncons l15 fun t16 l17 => K.unnil l17 (
K.ltK (K.binV ctx .lss 3 false t16 t14) t16 t14 fun t18 =>
K.iteV t18 (
K.idxSK 1 t12 t16 fun t19 =>
K.ldK ctx 23 t19 h8 fun t20 =>
K.callVK run t10 [t20] h8 fun t21 h22 =>
K.notK t21 fun t23 =>
K.iteV t23 (
K.unmarkK m7 h22 fun h24 => .ok (.tup []) h24) (
K.addK (K.binV ctx .add 3 true t16 (.int .i64 (.ofNat 1))) t16 (.int .i64 (.ofNat 1)) fun t25 =>
s9 [t10, t12, t14, t25] m7 h22)) (
K.unmarkK m7 h8 fun h26 => .ok (.tup []) h26))) [t0, t4, t5, (.int .i64 (.ofNat 0))] [] h)
noncomputable def r240 : K.KRun → List AV → H → K.KR := fun run args h => K.uncons args fun t0 l1 => K.unnil l1 (
K.nilK t0 fun t2 =>
K.fldK 1 t2 fun t3 =>
K.ldK ctx 23 t3 h fun t4 =>
K.bldSK ctx 110 [(0, (.bool true)), (1, (.bool true)), (3, t4)] fun t5 =>
K.nilK t0 fun t6 =>
K.fldK 2 t6 fun t7 =>
K.stsK 4 t7 t5 h fun h8 =>
K.unmarkK [] h8 fun h9 => .ok (.tup []) h9)
noncomputable def r270 : K.KRun → List AV → H → K.KR := fun run args h => K.uncons args fun t0 l1 => K.uncons l1 fun t2 l3 => K.uncons l3 fun t4 l5 => K.unnil l5 (
K.eqK (K.binV ctx .eql 101 true t0 .nilPtr) t0 .nilPtr fun t6 =>
K.iteV t6 (
K.unmarkK [] h fun h7 => .ok (.int .i64 (.ofNat 2)) h7) (
K.callFK run 101 [t0, t2] h fun t8 h9 =>
K.notK t8 fun t10 =>
K.iteV t10 (
K.unmarkK [] h9 fun h11 => .ok (.int .i64 (.ofNat 8)) h11) (
K.letK (fun (l12 : List AV) (m13 : List Nat) (h14 : H) => K.uncons l12 fun t16 l17 => K.uncons l17 fun t18 l19 => K.uncons l19 fun t20 l21 => K.unnil l21 (
K.nilK t16 fun t22 =>
K.fldK 1 t22 fun t23 =>
K.ldK ctx 149 t23 h14 fun t24 =>
K.slowK ctx run (K.opAt Go.Proofs.Tryz.f270 10 6) [45, 46, 47] [t24, t18, t20] h14 fun t25 h26 =>
K.unmarkK m13 h26 fun h27 => .ok (.int .i64 (.ofNat 0)) h27)) fun j15 =>
K.nilK t0 fun t28 =>
K.fldK 1 t28 fun t29 =>
K.ldK ctx 149 t29 h9 fun t30 =>
K.slowK ctx run (K.opAt Go.Proofs.Tryz.f270 5 5) [19, 20] [t30, t2] h9 fun t31 h32 =>
K.extK t31 0 fun t33 =>
K.extK t31 1 fun t34 =>
K.notK t34 fun t35 =>
K.iteV t35 (
K.nilK t0 fun t36 =>
K.fldK 2 t36 fun t37 =>
K.ldK ctx 95 t37 h32 fun t38 =>
K.lenVK t38 fun t39 =>
K.geK (K.binV ctx .geq 3 true t39 (.int .i64 (.ofNat 96))) t39 (.int .i64 (.ofNat 96)) fun t40 =>
K.iteV t40 (
K.unmarkK [] h32 fun h41 => .ok (.int .i64 (.ofNat 5)) h41) (
K.nilK t0 fun t42 =>
K.fldK 2 t42 fun t43 =>
K.ldK ctx 95 t43 h32 fun t44 =>
K.bslK ctx 3 1 1 [(0, t2)] h32 fun t45 h46 =>
K.appK ctx 3 1 t44 t45 h46 fun t47 h48 =>
K.nilK t0 fun t49 =>
K.fldK 2 t49 fun t50 =>
K.stK t50 t47 h48 fun h51 =>
j15 [t0, t2, t4] [] h51)) (
j15 [t0, t2, t4] [] h32))))
noncomputable def y1 : K.RnF := fun run l args env h => K.uncons args fun t0 l1 => K.unnil l1 (
K.opt (K.get env 5) fun t2 => K.begR l h fun h3 =>
K.ldK ctx 133 t2 h3 fun t4 =>
K.callVK run t4 [t0] h3 fun t5 h6 =>
K.finR l h6 .ready none true)
noncomputable def y2 : K.RnF := fun run l args env h => K.uncons args fun t0 l1 => K.unnil l1 (
K.opt (K.get env 4) fun t2 => K.begR l h fun h3 =>
K.nilK t0 fun t4 =>
K.fldK 1 t4 fun t5 =>
K.ldK ctx 95 t5 h3 fun t6 =>
K.idxSK 1 t6 (.int .i64 (.ofNat 0)) fun t7 =>
K.ldK ctx 3 t7 h3 fun t8 =>
K.addK (K.binV ctx .add 3 true t8 (.int .i64 (.ofNat 1))) t8 (.int .i64 (.ofNat 1)) fun t9 =>
K.nilK t0 fun t10 =>
K.fldK 1 t10 fun t11 =>
K.ldK ctx 95 t11 h3 fun t12 =>
K.slcK ctx 95 t12 (some (.int .i64 (.ofNat 1))) none none h3 fun t13 =>
K.nilK t0 fun t14 =>
K.fldK 0 t14 fun t15 =>
K.stK t15 t9 h3 fun h16 =>
K.nilK t0 fun t17 =>
K.fldK 1 t17 fun t18 =>
K.stK t18 t13 h16 fun h19 =>
K.ldK ctx 95 t2 h19 fun t20 =>
K.bslK ctx 3 1 1 [(0, t8)] h19 fun t21 h22 =>
K.appK ctx 3 1 t20 t21 h22 fun t23 h24 =>
K.stK t2 t23 h24 fun h25 =>
K.finR l h25 .ready none true)
noncomputable def y3 : K.RnF := fun run l args env h => K.uncons args fun t0 l1 => K.unnil l1 (
K.opt (K.get env 2) fun t2 => K.begR l h fun h3 =>
K.ldK ctx 95 t2 h3 fun t4 =>
K.bslK ctx 3 1 1 [(0, t0)] h3 fun t5 h6 =>
K.appK ctx 3 1 t4 t5 h6 fun t7 h8 =>
K.stK t2 t7 h8 fun h9 =>
K.finR l h9 .ready none true)
noncomputable def y4 : K.RnF := fun run l args env h => K.uncons args fun t0 l1 => K.unnil l1 (
K.opt (K.get env 4) fun t2 => K.begR l h fun h3 =>
K.ldK ctx 132 t2 h3 fun t4 =>
K.callVK run t4 [t0] h3 fun t5 h6 =>
K.finR l h6 .ready none true)
noncomputable def y5 : K.RnF := fun run l args env h => K.uncons args fun t0 l1 => K.unnil l1 (
K.begR l h fun h2 =>
K.nilK t0 fun t3 =>
K.fldK 2 t3 fun t4 =>
K.fldK 1 t4 fun t5 =>
K.ldK ctx 4 t5 h2 fun t6 =>
K.notK t6 fun t7 =>
K.iteV t7 (
K.finR l h2 .ready none true) (
K.nilK t0 fun t8 =>
K.fldK 2 t8 fun t9 =>
K.fldK 2 t9 fun t10 =>
K.ldK ctx 4 t10 h2 fun t11 =>
K.nilK t0 fun t12 =>
K.fldK 2 t12 fun t13 =>
K.fldK 3 t13 fun t14 =>
K.ldK ctx 23 t14 h2 fun t15 =>
K.callFK run 52 [t0, t15] h2 fun t16 h17 =>
K.nilK t0 fun t18 =>
K.fldK 2 t18 fun t19 =>
K.fldK 0 t19 fun t20 =>
K.stK t20 t11 h17 fun h21 =>
K.nilK t0 fun t22 =>
K.fldK 2 t22 fun t23 =>
K.fldK 2 t23 fun t24 =>
K.stK t24 t11 h21 fun h25 =>
K.finR l h25 .ready none true))
end YthlpjeoddenioaaGreatDoorSfM
