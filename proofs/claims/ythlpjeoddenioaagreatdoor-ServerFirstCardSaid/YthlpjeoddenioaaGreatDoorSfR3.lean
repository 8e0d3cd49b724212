/- PRINTED BY Gen2.lean (own): functions as plain texts, part 3. -/
import Derived.Test.YthlpjeoddenioaaGreatDoorSfCtx
namespace YthlpjeoddenioaaGreatDoorSfM
open Go Am
set_option maxRecDepth 100000
noncomputable def r109 : K.KRun → List AV → H → K.KR := fun run args h => K.uncons args fun t0 l1 => K.uncons l1 fun t2 l3 => K.unnil l3 (
K.boxK t0 h fun t4 h5 =>
K.ldsK ctx 26 3 t4 h5 fun t6 =>
K.callFK run 20 [t6] h5 fun t7 h8 =>
K.notK t7 fun t9 =>
K.letK (fun (t10 : AV) (h11 : H) => K.letK (fun (t13 : AV) (h14 : H) => K.letK (fun (t16 : AV) (h17 : H) => K.pickK t9 (.bool true) t16 fun t19 =>
K.iteV t19 (
K.unmarkK [] h17 fun h20 => .ok (.bool false) h20) (
K.slowK ctx run (K.opAt Go.Proofs.Tryz.f109 3 0) [] [] h17 fun t21 h22 =>
K.letK (fun (l23 : List AV) (m24 : List Nat) (h25 : H) => K.unnil l23 (
K.unmarkK m24 h25 fun h27 => .ok (.bool true) h27)) fun j26 =>
K.lenVK t2 fun t28 =>
K.loopV (nat_lit 1000000) (fun s32 l29 m30 h31 => K.uncons l29 fun t33 l34 => K.uncons l34 fun t35 l36 => K.uncons l36 fun t37 l38 => K.uncons l38 fun t39 l40 => K.uncons l40 fun t41 l42 => K.unnil l42 (
K.ltK (K.binV ctx .lss 3 false t41 t39) t41 t39 fun t43 =>
K.iteV t43 (
K.idxSK 2 t37 t41 fun t44 =>
K.ldsK ctx 212 2 t44 h31 fun t45 =>
K.allocK (K.zN ctx 212) (K.zT ctx 212) h31 fun t46 h47 =>
K.stsK 2 t46 t45 h47 fun h48 =>
K.ldsK ctx 26 3 t33 h48 fun t49 =>
K.fldK 0 t46 fun t50 =>
K.ldK ctx 3 t50 h48 fun t51 =>
K.callFK run 139 [t49, t51] h48 fun t52 h53 =>
K.extK t52 0 fun t54 =>
K.extK t52 1 fun t55 =>
K.extK t52 2 fun t56 =>
K.extK t52 3 fun t57 =>
K.callFK run 140 [t54] h53 fun t58 h59 =>
K.notK t58 fun t60 =>
K.letK (fun (t61 : AV) (h62 : H) => K.letK (fun (t64 : AV) (h65 : H) => K.letK (fun (t67 : AV) (h68 : H) => K.letK (fun (t70 : AV) (h71 : H) => K.letK (fun (t73 : AV) (h74 : H) => K.pickK t60 (.bool true) t73 fun t76 =>
K.iteV t76 (
K.unmarkK m30 h74 fun h77 => .ok (.bool false) h77) (
K.fldK 0 t46 fun t78 =>
K.ldK ctx 3 t78 h74 fun t79 =>
K.slowK ctx run (K.opAt Go.Proofs.Tryz.f109 10 3) [46, 48] [t35, t79] h74 fun t80 h81 =>
K.addK (K.binV ctx .add 3 true t41 (.int .i64 (.ofNat 1))) t41 (.int .i64 (.ofNat 1)) fun t82 =>
s32 [t33, t35, t37, t39, t82] m30 h81)) fun j75 =>
K.guK false t60 (K.gtK (K.binV ctx .gtr 3 true t70 (.int .i64 (.ofNat 0))) t70 (.int .i64 (.ofNat 0)) fun t83 =>
j75 t83 h71) (j75 (.tup []) h71)) fun j72 =>
K.guK false t60 (K.slowK ctx run (K.opAt Go.Proofs.Tryz.f109 8 7) [40, 42] [t61, t67] h68 fun t84 h85 =>
j72 t84 h85) (j72 (.tup []) h68)) fun j69 =>
K.guK false t60 (K.ldK ctx 3 t64 h65 fun t86 =>
j69 t86 h65) (j69 (.tup []) h65)) fun j66 =>
K.guK false t60 (K.fldK 0 t46 fun t87 =>
j66 t87 h62) (j66 (.tup []) h62)) fun j63 =>
K.guK false t60 (j63 t35 h59) (j63 (.tup []) h59)) (
j26 [] m30 h31))) [t4, t21, t2, t28, (.int .i64 (.ofNat 0))] [] h22)) fun j18 =>
K.guK false t9 (K.gtK (K.binV ctx .gtr 3 true t13 (.int .i64 (.ofNat 96))) t13 (.int .i64 (.ofNat 96)) fun t88 =>
j18 t88 h14) (j18 (.tup []) h14)) fun j15 =>
K.guK false t9 (K.lenVK t10 fun t89 =>
j15 t89 h11) (j15 (.tup []) h11)) fun j12 =>
K.guK false t9 (j12 t2 h8) (j12 (.tup []) h8))
noncomputable def r110 : K.KRun → List AV → H → K.KR := fun run args h => K.uncons args fun t0 l1 => K.unnil l1 (
K.allocK (K.zN ctx 28) (K.zT ctx 28) h fun t2 h3 =>
K.lenVK t0 fun t4 =>
K.gtK (K.binV ctx .gtr 3 true t4 (.int .i64 (.ofNat 96))) t4 (.int .i64 (.ofNat 96)) fun t5 =>
K.iteV t5 (
K.stK t2 .nilSlice h3 fun h6 =>
K.unmarkK [] h6 fun h7 => K.asPtr t2 fun n8 n9 => K.load1 h7 n8 n9 fun t10 => .ok (.tup [t10, (.int .i64 (.ofNat 5))]) h7) (
K.lenVK t0 fun t11 =>
K.rK (convA ctx 3 23 t11 h3) fun t12 h13 =>
K.bslK ctx 23 1 1 [(0, t12)] h13 fun t14 h15 =>
K.callVK run (.func (.func 141) [] [t2]) [t14] h15 fun t16 h17 =>
K.letK (fun (l18 : List AV) (m19 : List Nat) (h20 : H) => K.uncons l18 fun t22 l23 => K.uncons l23 fun t24 l25 => K.unnil l25 (
K.ldK ctx 28 t22 h20 fun t26 =>
K.callFK run 142 [t26] h20 fun t27 h28 =>
K.bslK ctx 23 1 1 [(0, t27)] h28 fun t29 h30 =>
K.callVK run t24 [t29] h30 fun t31 h32 =>
K.ldK ctx 28 t22 h32 fun t33 =>
K.stK t22 t33 h32 fun h34 =>
K.unmarkK m19 h34 fun h35 => K.asPtr t22 fun n36 n37 => K.load1 h35 n36 n37 fun t38 => .ok (.tup [t38, (.int .i64 (.ofNat 0))]) h35)) fun j21 =>
K.lenVK t0 fun t39 =>
K.loopV (nat_lit 1000000) (fun s43 l40 m41 h42 => K.uncons l40 fun t44 l45 => K.uncons l45 fun t46 l47 => K.uncons l47 fun t48 l49 => K.uncons l49 fun t50 l51 => K.uncons l51 fun t52 l53 => K.unnil l53 (
K.ltK (K.binV ctx .lss 3 false t52 t50) t52 t50 fun t54 =>
K.iteV t54 (
K.idxSK 2 t48 t52 fun t55 =>
K.ldsK ctx 212 2 t55 h42 fun t56 =>
K.allocK (K.zN ctx 212) (K.zT ctx 212) h42 fun t57 h58 =>
K.stsK 2 t57 t56 h58 fun h59 =>
K.fldK 0 t57 fun t60 =>
K.ldK ctx 3 t60 h59 fun t61 =>
K.ltK (K.binV ctx .lss 3 true t61 (.int .i64 (.ofNat 0))) t61 (.int .i64 (.ofNat 0)) fun t62 =>
K.iteV t62 (
K.stK t44 .nilSlice h59 fun h63 =>
K.unmarkK m41 h63 fun h64 => K.asPtr t44 fun n65 n66 => K.load1 h64 n65 n66 fun t67 => .ok (.tup [t67, (.int .i64 (.ofNat 1))]) h64) (
K.fldK 0 t57 fun t68 =>
K.ldK ctx 3 t68 h59 fun t69 =>
K.rK (convA ctx 3 23 t69 h59) fun t70 h71 =>
K.fldK 1 t57 fun t72 =>
K.ldK ctx 23 t72 h71 fun t73 =>
K.bslK ctx 23 1 2 [(0, t70), (1, t73)] h71 fun t74 h75 =>
K.callVK run t46 [t74] h75 fun t76 h77 =>
K.addK (K.binV ctx .add 3 true t52 (.int .i64 (.ofNat 1))) t52 (.int .i64 (.ofNat 1)) fun t78 =>
s43 [t44, t46, t48, t50, t78] m41 h77)) (
j21 [t44, t46] m41 h42))) [t2, (.func (.func 141) [] [t2]), t0, t39, (.int .i64 (.ofNat 0))] [] h17))
noncomputable def r111 : K.KRun → List AV → H → K.KR := fun run args h => K.uncons args fun t0 l1 => K.uncons l1 fun t2 l3 => K.uncons l3 fun t4 l5 => K.uncons l5 fun t6 l7 => K.unnil l7 (
K.callFK run 143 [t0, t2, t6] h fun t8 h9 =>
K.callFK run 144 [t0, t4, t6] h9 fun t10 h11 =>
K.unmarkK [] h11 fun h12 => .ok (.tup []) h12)
noncomputable def r112 : K.KRun → List AV → H → K.KR := fun run args h => K.uncons args fun t0 l1 => K.uncons l1 fun t2 l3 => K.uncons l3 fun t4 l5 => K.unnil l5 (
K.nilK t0 fun t6 =>
K.fldK 4 t6 fun t7 =>
K.ldK ctx 3 t7 h fun t8 =>
K.bldSK ctx 212 [(0, t8), (1, t4)] fun t9 =>
K.bslK ctx 212 2 1 [(0, t9)] h fun t10 h11 =>
K.callFK run 111 [t0, t2, t2, t10] h11 fun t12 h13 =>
K.unmarkK [] h13 fun h14 => .ok (.tup []) h14)
noncomputable def r113 : K.KRun → List AV → H → K.KR := fun run args h => K.uncons args fun t0 l1 => K.unnil l1 (
K.callFK run 145 [t0] h fun t2 h3 =>
K.extK t2 0 fun t4 =>
K.extK t2 1 fun t5 =>
K.extK t2 2 fun t6 =>
K.notK t6 fun t7 =>
K.iteV t7 (
K.unmarkK [] h3 fun h8 => .ok (.int .u64 (.ofNat 0)) h8) (
K.oK (K.binV ctx .shl 23 true t5 (.int .u64 (.ofNat 16))) fun t9 =>
K.idxSK 1 t4 (.int .i64 (.ofNat 0)) fun t10 =>
K.ldK ctx 23 t10 h3 fun t11 =>
K.oK (K.binV ctx .shl 23 true t11 (.int .u64 (.ofNat 8))) fun t12 =>
K.oK (K.binV ctx .or 23 false t9 t12) fun t13 =>
K.oK (K.binV ctx .or 23 true t13 (.int .u64 (.ofNat 1))) fun t14 =>
K.unmarkK [] h3 fun h15 => .ok t14 h15))
noncomputable def r114 : K.KRun → List AV → H → K.KR := fun run args h => K.uncons args fun t0 l1 => K.uncons l1 fun t2 l3 => K.unnil l3 (
K.callFK run 111 [t0, (.int .u8 (.ofNat 4)), (.int .u8 (.ofNat 5)), t2] h fun t4 h5 =>
K.callFK run 112 [t0, (.int .u8 (.ofNat 6)), (.int .u64 (.ofNat 0))] h5 fun t6 h7 =>
K.unmarkK [] h7 fun h8 => .ok (.tup []) h8)
noncomputable def r115 : K.KRun → List AV → H → K.KR := fun run args h => K.uncons args fun t0 l1 => K.unnil l1 (
K.eqK (K.binV ctx .eql 182 true t0 .nilSlice) t0 .nilSlice fun t2 =>
K.iteV t2 (
K.unmarkK [] h fun h3 => .ok .nilSlice h3) (
K.bslK ctx 212 2 0 [] h fun t4 h5 =>
K.appK ctx 212 2 t4 t0 h5 fun t6 h7 =>
K.unmarkK [] h7 fun h8 => .ok t6 h8))
noncomputable def r116 : K.KRun → List AV → H → K.KR := fun run args h => K.uncons args fun t0 l1 => K.unnil l1 (
K.eqK (K.binV ctx .eql 119 true t0 .nilPtr) t0 .nilPtr fun t2 =>
K.iteV t2 (
K.unmarkK [] h fun h3 => .ok (.int .i64 (.ofNat 0)) h3) (
K.nilK t0 fun t4 =>
K.fldK 5 t4 fun t5 =>
K.ldK ctx 152 t5 h fun t6 =>
K.lenVK t6 fun t7 =>
K.unmarkK [] h fun h8 => .ok t7 h8))
noncomputable def r117 : K.KRun → List AV → H → K.KR := fun run args h => K.uncons args fun t0 l1 => K.unnil l1 (
K.eqK (K.binV ctx .eql 119 true t0 .nilPtr) t0 .nilPtr fun t2 =>
K.iteV t2 (
K.unmarkK [] h fun h3 => .ok (.tup [(.int .u8 (.ofNat 0)), (.int .i64 (.ofNat 2))]) h3) (
K.nilK t0 fun t4 =>
K.fldK 5 t4 fun t5 =>
K.ldK ctx 152 t5 h fun t6 =>
K.lenVK t6 fun t7 =>
K.eqK (K.binV ctx .eql 3 true t7 (.int .i64 (.ofNat 0))) t7 (.int .i64 (.ofNat 0)) fun t8 =>
K.iteV t8 (
K.unmarkK [] h fun h9 => .ok (.tup [(.int .u8 (.ofNat 0)), (.int .i64 (.ofNat 3))]) h9) (
K.nilK t0 fun t10 =>
K.fldK 5 t10 fun t11 =>
K.ldK ctx 152 t11 h fun t12 =>
K.idxSK 2 t12 (.int .i64 (.ofNat 0)) fun t13 =>
K.ldsK ctx 254 2 t13 h fun t14 =>
K.allocK (K.zN ctx 254) (K.zT ctx 254) h fun t15 h16 =>
K.stsK 2 t15 t14 h16 fun h17 =>
K.nilK t0 fun t18 =>
K.fldK 5 t18 fun t19 =>
K.ldK ctx 152 t19 h17 fun t20 =>
K.slcK ctx 152 t20 (some (.int .i64 (.ofNat 1))) none none h17 fun t21 =>
K.nilK t0 fun t22 =>
K.fldK 5 t22 fun t23 =>
K.stK t23 t21 h17 fun h24 =>
K.fldK 0 t15 fun t25 =>
K.ldK ctx 214 t25 h24 fun t26 =>
K.fldK 1 t15 fun t27 =>
K.ldK ctx 252 t27 h24 fun t28 =>
K.callVK run t28 [] h24 fun t29 h30 =>
K.ldK ctx 214 t25 h30 fun t31 =>
K.req (AV.same t26 t31) (
K.unmarkK [] h30 fun h32 => .ok (.tup [t26, t29]) h32))))
noncomputable def r118 : K.KRun → List AV → H → K.KR := fun run args h => K.uncons args fun t0 l1 => K.uncons l1 fun t2 l3 => K.unnil l3 (
K.boxK t2 h fun t4 h5 =>
K.allocK (K.zN ctx 95) (K.zT ctx 95) h5 fun t6 h7 =>
K.eqK (K.binV ctx .eql 72 true t0 .nilPtr) t0 .nilPtr fun t8 =>
K.letK (fun (t9 : AV) (h10 : H) => K.letK (fun (t12 : AV) (h13 : H) => K.pickK t8 (.bool true) t12 fun t15 =>
K.letK (fun (t16 : AV) (h17 : H) => K.letK (fun (t19 : AV) (h20 : H) => K.letK (fun (t22 : AV) (h23 : H) => K.letK (fun (t25 : AV) (h26 : H) => K.letK (fun (t28 : AV) (h29 : H) => K.letK (fun (t31 : AV) (h32 : H) => K.pickK t15 (.bool true) t31 fun t34 =>
K.iteV t34 (
K.stK t6 .nilSlice h32 fun h35 =>
K.unmarkK [] h35 fun h36 => K.asPtr t6 fun n37 n38 => K.load1 h36 n37 n38 fun t39 => .ok t39 h36) (
K.letK (fun (l40 : List AV) (m41 : List Nat) (h42 : H) => K.uncons l40 fun t44 l45 => K.uncons l45 fun t46 l47 => K.unnil l47 (
K.letK (fun (l48 : List AV) (m49 : List Nat) (h50 : H) => K.uncons l48 fun t52 l53 => K.unnil l53 (
K.ldK ctx 95 t52 h50 fun t54 =>
K.stK t52 t54 h50 fun h55 =>
K.unmarkK m49 h55 fun h56 => K.asPtr t52 fun n57 n58 => K.load1 h56 n57 n58 fun t59 => .ok t59 h56)) fun j51 =>
K.callFK run 148 [t44] h42 fun t60 h61 =>
K.hNew h61 .marks fun r62 h63 => K.hNew h63 (.loop .ready none (K.mkT [4, 52] [t46, t60]) 2 r62) fun n64 h65 =>
K.rngK ctx run t60 n64 h65 (fun h67 => j51 [t46] (r62 :: m41) h67) (fun h68 => K.unmarkK (r62 :: m41) h68 fun h71 => K.asPtr t46 fun n72 n73 => K.load1 h71 n72 n73 fun t74 => .ok t74 h71) fun i66 h69 => (Bool.rec (motive := fun _ => K.KR) (.bad) (j51 [t46] (r62 :: m41) h69) (Nat.beq i66 2)))) fun j43 =>
K.loopV (nat_lit 1000000) (fun s78 l75 m76 h77 => K.uncons l75 fun t79 l80 => K.uncons l80 fun t81 l82 => K.uncons l82 fun t83 l84 => K.uncons l84 fun t85 l86 => K.unnil l86 (
K.ltK (K.binV ctx .lss 3 true t85 (.int .i64 (.ofNat 70))) t85 (.int .i64 (.ofNat 70)) fun t87 =>
K.iteV t87 (
K.nilK t79 fun t88 =>
K.fldK 1 t88 fun t89 =>
K.idxAK 70 2 t89 t85 fun t90 =>
K.letK (fun (l91 : List AV) (m92 : List Nat) (h93 : H) => K.uncons l91 fun t95 l96 => K.uncons l96 fun t97 l98 => K.uncons l98 fun t99 l100 => K.uncons l100 fun t101 l102 => K.uncons l102 fun t103 l104 => K.unnil l104 (
K.nilK t101 fun t105 =>
K.fldK 1 t105 fun t106 =>
K.ldK ctx 95 t106 h93 fun t107 =>
K.callFK run 146 [t107, (.func (.func 147) [] [t97])] h93 fun t108 h109 =>
K.nilK t101 fun t110 =>
K.fldK 1 t110 fun t111 =>
K.stK t111 t108 h109 fun h112 =>
K.addK (K.binV ctx .add 3 true t103 (.int .i64 (.ofNat 1))) t103 (.int .i64 (.ofNat 1)) fun t113 =>
s78 [t95, t97, t99, t113] m92 h112)) fun j94 =>
K.nilK t90 fun t114 =>
K.fldK 0 t114 fun t115 =>
K.ldK ctx 3 t115 h77 fun t116 =>
K.ldK ctx 3 t81 h77 fun t117 =>
K.addK (K.binV ctx .add 3 true t117 (.int .i64 (.ofNat 1))) t117 (.int .i64 (.ofNat 1)) fun t118 =>
K.eqK (K.binV ctx .eql 3 false t116 t118) t116 t118 fun t119 =>
K.iteV t119 (
K.nilK t90 fun t120 =>
K.fldK 0 t120 fun t121 =>
K.stK t121 (.int .i64 (.ofNat 0)) h77 fun h122 =>
j94 [t79, t81, t83, t90, t85] m76 h122) (
j94 [t79, t81, t83, t90, t85] m76 h77)) (
j43 [t79, t83] m76 h77))) [t0, t4, t6, (.int .i64 (.ofNat 0))] [] h32)) fun j33 =>
K.guK false t15 (K.geK (K.binV ctx .geq 3 false t16 t28) t16 t28 fun t123 =>
j33 t123 h29) (j33 (.tup []) h29)) fun j30 =>
K.guK false t15 (K.ldK ctx 3 t25 h26 fun t124 =>
j30 t124 h26) (j30 (.tup []) h26)) fun j27 =>
K.guK false t15 (K.fldK 0 t22 fun t125 =>
j27 t125 h23) (j27 (.tup []) h23)) fun j24 =>
K.guK false t15 (K.nilK t19 fun t126 =>
j24 t126 h20) (j24 (.tup []) h20)) fun j21 =>
K.guK false t15 (j21 t0 h17) (j21 (.tup []) h17)) fun j18 =>
K.guK false t15 (K.ldK ctx 3 t4 h13 fun t127 =>
j18 t127 h13) (j18 (.tup []) h13)) fun j14 =>
K.guK false t8 (K.ltK (K.binV ctx .lss 3 true t9 (.int .i64 (.ofNat 0))) t9 (.int .i64 (.ofNat 0)) fun t128 =>
j14 t128 h10) (j14 (.tup []) h10)) fun j11 =>
K.guK false t8 (K.ldK ctx 3 t4 h7 fun t129 =>
j11 t129 h7) (j11 (.tup []) h7))
noncomputable def r123 : K.KRun → List AV → H → K.KR := fun run args h => K.uncons args fun t0 l1 => K.uncons l1 fun t2 l3 => K.unnil l3 (
K.boxK t0 h fun t4 h5 =>
K.letK (fun (l6 : List AV) (m7 : List Nat) (h8 : H) => K.uncons l6 fun t10 l11 => K.unnil l11 (
K.ldK ctx 95 t10 h8 fun t12 =>
K.unmarkK m7 h8 fun h13 => .ok t12 h13)) fun j9 =>
K.hNew h5 .marks fun r14 h15 => K.hNew h15 (.loop .ready none (K.mkT [2, 6] [t4, t2]) 3 r14) fun n16 h17 =>
K.rngK ctx run t2 n16 h17 (fun h19 => j9 [t4] (r14 :: []) h19) (fun h20 => K.unmarkK (r14 :: []) h20 fun h23 => .bad) fun i18 h21 => (Bool.rec (motive := fun _ => K.KR) (.bad) (j9 [t4] (r14 :: []) h21) (Nat.beq i18 0)))
noncomputable def r124 : K.KRun → List AV → H → K.KR := fun run args h => K.uncons args fun t0 l1 => K.uncons l1 fun t2 l3 => K.uncons l3 fun t4 l5 => K.uncons l5 fun t6 l7 => K.unnil l7 (
K.loopV (nat_lit 1000000) (fun s11 l8 m9 h10 => K.uncons l8 fun t12 l13 => K.uncons l13 fun t14 l15 => K.uncons l15 fun t16 l17 => K.uncons l17 fun t18 l19 => K.uncons l19 fun t20 l21 => K.uncons l21 fun t22 l23 => K.unnil l23 (
K.subK (K.binV ctx .sub 3 false t16 t14) t16 t14 fun t24 =>
K.leK (K.binV ctx .leq 3 true t24 (.int .i64 (.ofNat 12))) t24 (.int .i64 (.ofNat 12)) fun t25 =>
K.iteV t25 (
K.callFK run 157 [t12, t14, t16] h10 fun t26 h27 =>
K.unmarkK m9 h27 fun h28 => .ok (.tup []) h28) (
K.eqK (K.binV ctx .eql 3 true t18 (.int .i64 (.ofNat 0))) t18 (.int .i64 (.ofNat 0)) fun t29 =>
K.iteV t29 (
K.callFK run 158 [t12, t14, t16] h10 fun t30 h31 =>
K.unmarkK m9 h31 fun h32 => .ok (.tup []) h32) (
K.letK (fun (l33 : List AV) (m34 : List Nat) (h35 : H) => K.uncons l33 fun t37 l38 => K.uncons l38 fun t39 l40 => K.uncons l40 fun t41 l42 => K.uncons l42 fun t43 l44 => K.uncons l44 fun t45 l46 => K.uncons l46 fun t47 l48 => K.uncons l48 fun t49 l50 => K.unnil l50 (
K.callFK run 160 [t37, t39, t41] h35 fun t51 h52 =>
K.extK t51 0 fun t53 =>
K.extK t51 1 fun t54 =>
K.letK (fun (l55 : List AV) (m56 : List Nat) (h57 : H) => K.uncons l55 fun t59 l60 => K.uncons l60 fun t61 l62 => K.uncons l62 fun t63 l64 => K.uncons l64 fun t65 l66 => K.uncons l66 fun t67 l68 => K.uncons l68 fun t69 l70 => K.uncons l70 fun t71 l72 => K.uncons l72 fun t73 l74 => K.uncons l74 fun t75 l76 => K.unnil l76 (
K.letK (fun (l77 : List AV) (m78 : List Nat) (h79 : H) => K.uncons l77 fun t81 l82 => K.uncons l82 fun t83 l84 => K.uncons l84 fun t85 l86 => K.uncons l86 fun t87 l88 => K.uncons l88 fun t89 l90 => K.uncons l90 fun t91 l92 => K.uncons l92 fun t93 l94 => K.uncons l94 fun t95 l96 => K.unnil l96 (
K.gtK (K.binV ctx .gtr 3 true t83 (.int .i64 (.ofNat 0))) t83 (.int .i64 (.ofNat 0)) fun t97 =>
K.letK (fun (t98 : AV) (h99 : H) => K.letK (fun (t101 : AV) (h102 : H) => K.letK (fun (t104 : AV) (h105 : H) => K.letK (fun (t107 : AV) (h108 : H) => K.letK (fun (t110 : AV) (h111 : H) => K.letK (fun (t113 : AV) (h114 : H) => K.letK (fun (t116 : AV) (h117 : H) => K.letK (fun (t119 : AV) (h120 : H) => K.letK (fun (t122 : AV) (h123 : H) => K.letK (fun (t125 : AV) (h126 : H) => K.letK (fun (t128 : AV) (h129 : H) => K.pickK t97 t128 (.bool false) fun t131 =>
K.iteV t131 (
K.callFK run 164 [t81, t83, t85, t95] h129 fun t132 h133 =>
s11 [t81, t132, t85, t87, t89, t91] m78 h133) (
K.callFK run 165 [t81, t83, t85, t95] h129 fun t134 h135 =>
K.extK t134 0 fun t136 =>
K.extK t134 1 fun t137 =>
K.subK (K.binV ctx .sub 3 false t136 t83) t136 t83 fun t138 =>
K.subK (K.binV ctx .sub 3 false t85 t136) t85 t136 fun t139 =>
K.oK (K.binV ctx .quo 3 true t93 (.int .i64 (.ofNat 8))) fun t140 =>
K.ltK (K.binV ctx .lss 3 false t138 t139) t138 t139 fun t141 =>
K.iteV t141 (
K.geK (K.binV ctx .geq 3 false t138 t140) t138 t140 fun t142 =>
K.callFK run 124 [t81, t83, t136, t87] h135 fun t143 h144 =>
K.addK (K.binV ctx .add 3 true t136 (.int .i64 (.ofNat 1))) t136 (.int .i64 (.ofNat 1)) fun t145 =>
s11 [t81, t145, t85, t87, t142, t137] m78 h144) (
K.geK (K.binV ctx .geq 3 false t139 t140) t139 t140 fun t146 =>
K.addK (K.binV ctx .add 3 true t136 (.int .i64 (.ofNat 1))) t136 (.int .i64 (.ofNat 1)) fun t147 =>
K.callFK run 124 [t81, t147, t85, t87] h135 fun t148 h149 =>
s11 [t81, t83, t136, t87, t146, t137] m78 h149))) fun j130 =>
K.guK true t97 (K.notK t125 fun t150 =>
j130 t150 h126) (j130 (.tup []) h126)) fun j127 =>
K.guK true t97 (K.callFK run 163 [t110, t122] h123 fun t151 h152 =>
j127 t151 h152) (j127 (.tup []) h123)) fun j124 =>
K.guK true t97 (K.ldK ctx 3 t119 h120 fun t153 =>
j124 t153 h120) (j124 (.tup []) h120)) fun j121 =>
K.guK true t97 (K.idxSK 1 t113 t116 fun t154 =>
j121 t154 h117) (j121 (.tup []) h117)) fun j118 =>
K.guK true t97 (j118 t95 h114) (j118 (.tup []) h114)) fun j115 =>
K.guK true t97 (j115 t81 h111) (j115 (.tup []) h111)) fun j112 =>
K.guK true t97 (K.ldK ctx 3 t107 h108 fun t155 =>
j112 t155 h108) (j112 (.tup []) h108)) fun j109 =>
K.guK true t97 (K.idxSK 1 t98 t104 fun t156 =>
j109 t156 h105) (j109 (.tup []) h105)) fun j106 =>
K.guK true t97 (K.subK (K.binV ctx .sub 3 true t101 (.int .i64 (.ofNat 1))) t101 (.int .i64 (.ofNat 1)) fun t157 =>
j106 t157 h102) (j106 (.tup []) h102)) fun j103 =>
K.guK true t97 (j103 t83 h99) (j103 (.tup []) h99)) fun j100 =>
K.guK true t97 (j100 t81 h79) (j100 (.tup []) h79))) fun j80 =>
K.letK (fun (t158 : AV) (h159 : H) => K.pickK t67 t158 (.bool false) fun t161 =>
K.letK (fun (t162 : AV) (h163 : H) => K.letK (fun (t165 : AV) (h166 : H) => K.pickK t161 t165 (.bool false) fun t168 =>
K.iteV t168 (
K.callFK run 162 [t59, t61, t63] h166 fun t169 h170 =>
K.iteV t169 (
K.unmarkK m56 h170 fun h171 => .ok (.tup []) h171) (
j80 [t59, t61, t63, t65, t67, t69, t71, t73] m56 h170)) (
j80 [t59, t61, t63, t65, t67, t69, t71, t73] m56 h166)) fun j167 =>
K.guK true t161 (K.eqK (K.binV ctx .eql 278 true t162 (.int .i64 (.ofNat 1))) t162 (.int .i64 (.ofNat 1)) fun t172 =>
j167 t172 h163) (j167 (.tup []) h163)) fun j164 =>
K.guK true t161 (j164 t75 h159) (j164 (.tup []) h159)) fun j160 =>
K.guK true t67 (j160 t69 h57) (j160 (.tup []) h57))) fun j58 =>
K.eqK (K.binV ctx .eql 278 true t54 (.int .i64 (.ofNat 2))) t54 (.int .i64 (.ofNat 2)) fun t173 =>
K.iteV t173 (
K.callFK run 161 [t37, t39, t41] h52 fun t174 h175 =>
K.subK (K.binV ctx .sub 3 true t41 (.int .i64 (.ofNat 1))) t41 (.int .i64 (.ofNat 1)) fun t176 =>
K.subK (K.binV ctx .sub 3 false t53 t39) t53 t39 fun t177 =>
K.subK (K.binV ctx .sub 3 false t176 t177) t176 t177 fun t178 =>
j58 [t37, t39, t41, t43, t45, t47, t49, t178, (.int .i64 (.ofNat 1))] m34 h175) (
j58 [t37, t39, t41, t43, t45, t47, t49, t53, t54] m34 h52))) fun j36 =>
K.notK t20 fun t179 =>
K.iteV t179 (
K.callFK run 159 [t12, t14, t16] h10 fun t180 h181 =>
K.subK (K.binV ctx .sub 3 true t18 (.int .i64 (.ofNat 1))) t18 (.int .i64 (.ofNat 1)) fun t182 =>
j36 [t12, t14, t16, t182, t20, t22, t24] m9 h181) (
j36 [t12, t14, t16, t18, t20, t22, t24] m9 h10))))) [t0, t2, t4, t6, (.bool true), (.bool true)] [] h)
noncomputable def r125 : K.KRun → List AV → H → K.KR := fun run args h => K.uncons args fun t0 l1 => K.unnil l1 (
K.iteV (.bool false) (
K.rK (convA ctx 232 285 t0 h) fun t2 h3 =>
K.callFK run 166 [t2] h3 fun t4 h5 =>
K.unmarkK [] h5 fun h6 => .ok t4 h6) (
K.callFK run 167 [t0] h fun t7 h8 =>
K.unmarkK [] h8 fun h9 => .ok t7 h9))
noncomputable def r126 : K.KRun → List AV → H → K.KR := fun run args h => K.uncons args fun t0 l1 => K.unnil l1 (
K.ldsK ctx 26 3 (.gptr 1 0) h fun t2 =>
K.callFK run 22 [t2, (.int .u8 (.ofNat 2)), t0] h fun t3 h4 =>
K.unmarkK [] h4 fun h5 => .ok t3 h5)
noncomputable def r127 : K.KRun → List AV → H → K.KR := fun run args h => K.uncons args fun t0 l1 => K.unnil l1 (
K.eqK (K.binV ctx .eql 101 true t0 .nilPtr) t0 .nilPtr fun t2 =>
K.iteV t2 (
K.unmarkK [] h fun h3 => .ok (.int .i64 (.ofNat 0)) h3) (
K.nilK t0 fun t4 =>
K.fldK 0 t4 fun t5 =>
K.ldK ctx 28 t5 h fun t6 =>
K.lenVK t6 fun t7 =>
K.unmarkK [] h fun h8 => .ok t7 h8))
noncomputable def r128 : K.KRun → List AV → H → K.KR := fun run args h => K.uncons args fun t0 l1 => K.uncons l1 fun t2 l3 => K.uncons l3 fun t4 l5 => K.uncons l5 fun t6 l7 => K.uncons l7 fun t8 l9 => K.unnil l9 (
K.callFK run 126 [t0] h fun t10 h11 =>
K.ltK (K.binV ctx .lss 3 true t10 (.int .i64 (.ofNat 0))) t10 (.int .i64 (.ofNat 0)) fun t12 =>
K.letK (fun (t13 : AV) (h14 : H) => K.letK (fun (t16 : AV) (h17 : H) => K.letK (fun (t19 : AV) (h20 : H) => K.letK (fun (t22 : AV) (h23 : H) => K.letK (fun (t25 : AV) (h26 : H) => K.pickK t12 (.bool true) t25 fun t28 =>
K.iteV t28 (
K.unmarkK [] h26 fun h29 => .ok (.int .i64 (.negSucc 0)) h29) (
K.addK (K.binV ctx .add 3 false t10 t6) t10 t6 fun t30 =>
K.mulK (K.binV ctx .mul 3 false t8 t2) t8 t2 fun t31 =>
K.addK (K.binV ctx .add 3 false t30 t31) t30 t31 fun t32 =>
K.unmarkK [] h26 fun h33 => .ok t32 h33)) fun j27 =>
K.guK false t12 (K.notK t22 fun t34 =>
j27 t34 h23) (j27 (.tup []) h23)) fun j24 =>
K.guK false t12 (K.callFK run 44 [t13, (.int .i64 (.ofNat 0)), t19] h20 fun t35 h36 =>
j24 t35 h36) (j24 (.tup []) h20)) fun j21 =>
K.guK false t12 (K.subK (K.binV ctx .sub 3 true t16 (.int .i64 (.ofNat 1))) t16 (.int .i64 (.ofNat 1)) fun t37 =>
j21 t37 h17) (j21 (.tup []) h17)) fun j18 =>
K.guK false t12 (j18 t4 h14) (j18 (.tup []) h14)) fun j15 =>
K.guK false t12 (j15 t2 h11) (j15 (.tup []) h11))
noncomputable def r129 : K.KRun → List AV → H → K.KR := fun run args h => K.uncons args fun t0 l1 => K.uncons l1 fun t2 l3 => K.unnil l3 (
K.letK (fun (l4 : List AV) (m5 : List Nat) (h6 : H) => K.unnil l4 (
K.unmarkK m5 h6 fun h8 => .ok (.int .i64 (.negSucc 0)) h8)) fun j7 =>
K.lenVK t0 fun t9 =>
K.loopV (nat_lit 1000000) (fun s13 l10 m11 h12 => K.uncons l10 fun t14 l15 => K.uncons l15 fun t16 l17 => K.uncons l17 fun t18 l19 => K.uncons l19 fun t20 l21 => K.unnil l21 (
K.ltK (K.binV ctx .lss 3 false t20 t18) t20 t18 fun t22 =>
K.iteV t22 (
K.idxSK 1 t14 t20 fun t23 =>
K.ldK ctx 3 t23 h12 fun t24 =>
K.callVK run t16 [t24] h12 fun t25 h26 =>
K.iteV t25 (
K.unmarkK m11 h26 fun h27 => .ok t20 h27) (
K.addK (K.binV ctx .add 3 true t20 (.int .i64 (.ofNat 1))) t20 (.int .i64 (.ofNat 1)) fun t28 =>
s13 [t14, t16, t18, t28] m11 h26)) (
j7 [] m11 h12))) [t0, t2, t9, (.int .i64 (.ofNat 0))] [] h)
noncomputable def r133 : K.KRun → List AV → H → K.KR := fun run args h => K.uncons args fun t0 l1 => K.unnil l1 (
K.eqK (K.binV ctx .eql 101 true t0 .nilPtr) t0 .nilPtr fun t2 =>
K.iteV t2 (
K.unmarkK [] h fun h3 => .ok .nilSlice h3) (
K.letK (fun (l4 : List AV) (m5 : List Nat) (h6 : H) => K.uncons l4 fun t8 l9 => K.unnil l9 (
K.unmarkK m5 h6 fun h10 => .ok t8 h10)) fun j7 =>
K.nilK t0 fun t11 =>
K.fldK 2 t11 fun t12 =>
K.ldK ctx 95 t12 h fun t13 =>
K.lenVK t13 fun t14 =>
K.loopV (nat_lit 1000000) (fun s18 l15 m16 h17 => K.uncons l15 fun t19 l20 => K.uncons l20 fun t21 l22 => K.uncons l22 fun t23 l24 => K.uncons l24 fun t25 l26 => K.uncons l26 fun t27 l28 => K.unnil l28 (
K.ltK (K.binV ctx .lss 3 false t27 t25) t27 t25 fun t29 =>
K.iteV t29 (
K.idxSK 1 t23 t27 fun t30 =>
K.ldK ctx 3 t30 h17 fun t31 =>
K.nilK t19 fun t32 =>
K.fldK 1 t32 fun t33 =>
K.ldK ctx 149 t33 h17 fun t34 =>
K.slowK ctx run (K.opAt Go.Proofs.Tryz.f133 6 7) [21, 22] [t34, t31] h17 fun t35 h36 =>
K.bldSK ctx 212 [(0, t31), (1, t35)] fun t37 =>
K.bslK ctx 212 2 1 [(0, t37)] h36 fun t38 h39 =>
K.appK ctx 212 2 t21 t38 h39 fun t40 h41 =>
K.addK (K.binV ctx .add 3 true t27 (.int .i64 (.ofNat 1))) t27 (.int .i64 (.ofNat 1)) fun t42 =>
s18 [t19, t40, t23, t25, t42] m16 h41) (
j7 [t21] m16 h17))) [t0, .nilSlice, t13, t14, (.int .i64 (.ofNat 0))] [] h))
noncomputable def r135 : K.KRun → List AV → H → K.KR := fun run args h => K.uncons args fun t0 l1 => K.uncons l1 fun t2 l3 => K.uncons l3 fun t4 l5 => K.unnil l5 (
K.callFK run 61 [t0, t4, (.int .u64 (.ofNat 1))] h fun t6 h7 =>
K.neK (K.binV ctx .neq 35 true t6 (.int .i64 (.ofNat 0))) t6 (.int .i64 (.ofNat 0)) fun t8 =>
K.iteV t8 (
K.unmarkK [] h7 fun h9 => .ok (.tup [(.int .u8 (.ofNat 0)), t6]) h9) (
K.callFK run 78 [t0, t2] h7 fun t10 h11 =>
K.extK t10 0 fun t12 =>
K.extK t10 1 fun t13 =>
K.allocK (K.zN ctx 143) (K.zT ctx 143) h11 fun t14 h15 =>
K.stsK 3 t14 t12 h15 fun h16 =>
K.neK (K.binV ctx .neq 35 true t13 (.int .i64 (.ofNat 0))) t13 (.int .i64 (.ofNat 0)) fun t17 =>
K.iteV t17 (
K.unmarkK [] h16 fun h18 => .ok (.tup [(.int .u8 (.ofNat 0)), t13]) h18) (
K.fldK 0 t14 fun t19 =>
K.ldK ctx 4 t19 h16 fun t20 =>
K.letK (fun (t21 : AV) (h22 : H) => K.letK (fun (t24 : AV) (h25 : H) => K.letK (fun (t27 : AV) (h28 : H) => K.letK (fun (t30 : AV) (h31 : H) => K.pickK t20 t30 (.bool false) fun t33 =>
K.iteV t33 (
K.unmarkK [] h31 fun h34 => .ok (.tup [(.int .u8 (.ofNat 1)), (.int .i64 (.ofNat 0))]) h34) (
K.fldK 1 t14 fun t35 =>
K.ldK ctx 23 t35 h31 fun t36 =>
K.leK (K.binV ctx .leq 23 false t4 t36) t4 t36 fun t37 =>
K.iteV t37 (
K.unmarkK [] h31 fun h38 => .ok (.tup [(.int .u8 (.ofNat 2)), (.int .i64 (.ofNat 0))]) h38) (
K.letK (fun (l39 : List AV) (m40 : List Nat) (h41 : H) => K.uncons l39 fun t43 l44 => K.uncons l44 fun t45 l46 => K.uncons l46 fun t47 l48 => K.uncons l48 fun t49 l50 => K.unnil l50 (
K.iteV t49 (
K.unmarkK m40 h41 fun h51 => .ok (.tup [(.int .u8 (.ofNat 3)), (.int .i64 (.ofNat 0))]) h51) (
K.bldSK ctx 143 [(0, (.bool true)), (1, t47)] fun t52 =>
K.callFK run 174 [t43, t45, t52] h41 fun t53 h54 =>
K.letK (fun (l55 : List AV) (m56 : List Nat) (h57 : H) => K.uncons l55 fun t59 l60 => K.unnil l60 (
K.unmarkK m56 h57 fun h61 => .ok (.tup [(.int .u8 (.ofNat 0)), t59]) h61)) fun j58 =>
K.eqK (K.binV ctx .eql 35 true t53 (.int .i64 (.ofNat 0))) t53 (.int .i64 (.ofNat 0)) fun t62 =>
K.iteV t62 (
K.callFK run 175 [t43, t45] h54 fun t63 h64 =>
j58 [t63] m40 h64) (
j58 [t53] m40 h54)))) fun j42 =>
K.fldK 0 t14 fun t65 =>
K.ldK ctx 4 t65 h31 fun t66 =>
K.iteV t66 (
j42 [t0, t2, t4, t66] [] h31) (
K.fldK 1 t14 fun t67 =>
K.ldK ctx 23 t67 h31 fun t68 =>
K.subK (K.binV ctx .sub 23 false t4 t68) t4 t68 fun t69 =>
K.gtK (K.binV ctx .gtr 23 true t69 (.int .u64 (.ofNat 1))) t69 (.int .u64 (.ofNat 1)) fun t70 =>
j42 [t0, t2, t4, t70] [] h31)))) fun j32 =>
K.guK true t20 (K.eqK (K.binV ctx .eql 23 false t21 t27) t21 t27 fun t71 =>
j32 t71 h28) (j32 (.tup []) h28)) fun j29 =>
K.guK true t20 (K.ldK ctx 23 t24 h25 fun t72 =>
j29 t72 h25) (j29 (.tup []) h25)) fun j26 =>
K.guK true t20 (K.fldK 1 t14 fun t73 =>
j26 t73 h22) (j26 (.tup []) h22)) fun j23 =>
K.guK true t20 (j23 t4 h16) (j23 (.tup []) h16))))
noncomputable def r136 : K.KRun → List AV → H → K.KR := fun run args h => K.uncons args fun t0 l1 => K.uncons l1 fun t2 l3 => K.uncons l3 fun t4 l5 => K.unnil l5 (
K.neK (K.binV ctx .neq 35 true t4 (.int .i64 (.ofNat 0))) t4 (.int .i64 (.ofNat 0)) fun t6 =>
K.iteV t6 (
K.unmarkK [] h fun h7 => .ok (.tup [(.int .u8 (.ofNat 0)), .nilSlice, t4]) h7) (
K.callFK run 133 [t0] h fun t8 h9 =>
K.unmarkK [] h9 fun h10 => .ok (.tup [t2, t8, (.int .i64 (.ofNat 0))]) h10))
noncomputable def r139 : K.KRun → List AV → H → K.KR := fun run args h => K.uncons args fun t0 l1 => K.uncons l1 fun t2 l3 => K.unnil l3 (
K.boxK t0 h fun t4 h5 =>
K.ldsK ctx 26 3 t4 h5 fun t6 =>
K.callFK run 20 [t6] h5 fun t7 h8 =>
K.notK t7 fun t9 =>
K.letK (fun (t10 : AV) (h11 : H) => K.letK (fun (t13 : AV) (h14 : H) => K.pickK t9 (.bool true) t13 fun t16 =>
K.iteV t16 (
K.unmarkK [] h14 fun h17 => .ok (.tup [(.int .u8 (.ofNat 0)), (.int .i64 (.ofNat 0)), (.int .i64 (.ofNat 0)), (.int .i64 (.ofNat 0))]) h17) (
K.letK (fun (l18 : List AV) (m19 : List Nat) (h20 : H) => K.unnil l18 (
K.unmarkK m19 h20 fun h22 => .ok (.tup [(.int .u8 (.ofNat 0)), (.int .i64 (.ofNat 0)), (.int .i64 (.ofNat 0)), (.int .i64 (.ofNat 0))]) h22)) fun j21 =>
K.ldsK ctx 26 3 t4 h14 fun t23 =>
K.callFK run 45 [t23] h14 fun t24 h25 =>
K.loopV (nat_lit 1000000) (fun s29 l26 m27 h28 => K.uncons l26 fun t30 l31 => K.uncons l31 fun t32 l33 => K.uncons l33 fun t34 l35 => K.unnil l35 (
K.ltK (K.binV ctx .lss 3 true t34 (.int .i64 (.ofNat 7))) t34 (.int .i64 (.ofNat 7)) fun t36 =>
K.iteV t36 (
K.idxK ctx 105 3 7 t32 t34 fun t37 =>
K.allocK (K.zN ctx 105) (K.zT ctx 105) h28 fun t38 h39 =>
K.stsK 3 t38 t37 h39 fun h40 =>
K.fldK 1 t38 fun t41 =>
K.ldK ctx 3 t41 h40 fun t42 =>
K.fldK 2 t38 fun t43 =>
K.ldK ctx 3 t43 h40 fun t44 =>
K.mulK (K.binV ctx .mul 3 false t42 t44) t42 t44 fun t45 =>
K.geK (K.binV ctx .geq 3 false t30 t45) t30 t45 fun t46 =>
K.iteV t46 (
K.subK (K.binV ctx .sub 3 false t30 t45) t30 t45 fun t47 =>
K.addK (K.binV ctx .add 3 true t34 (.int .i64 (.ofNat 1))) t34 (.int .i64 (.ofNat 1)) fun t48 =>
s29 [t47, t32, t48] m27 h40) (
K.fldK 1 t38 fun t49 =>
K.ldK ctx 3 t49 h40 fun t50 =>
K.oK (K.binV ctx .quo 3 false t30 t50) fun t51 =>
K.fldK 1 t38 fun t52 =>
K.ldK ctx 3 t52 h40 fun t53 =>
K.oK (K.binV ctx .rem 3 false t30 t53) fun t54 =>
K.fldK 0 t38 fun t55 =>
K.ldK ctx 70 t55 h40 fun t56 =>
K.eqK (K.binV ctx .eql 70 true t56 (.int .u8 (.ofNat 2))) t56 (.int .u8 (.ofNat 2)) fun t57 =>
K.iteV t57 (
K.callFK run 178 [t51, t54] h40 fun t58 h59 =>
K.extK t58 0 fun t60 =>
K.extK t58 1 fun t61 =>
K.extK t58 2 fun t62 =>
K.extK t58 3 fun t63 =>
K.unmarkK m27 h59 fun h64 => .ok (.tup [t60, t61, t62, t63]) h64) (
K.fldK 0 t38 fun t65 =>
K.ldK ctx 70 t65 h40 fun t66 =>
K.unmarkK m27 h40 fun h67 => .ok (.tup [t66, t51, (.int .i64 (.ofNat 0)), t54]) h67))) (
j21 [] m27 h28))) [t2, t24, (.int .i64 (.ofNat 0))] [] h25)) fun j15 =>
K.guK false t9 (K.ltK (K.binV ctx .lss 3 true t10 (.int .i64 (.ofNat 0))) t10 (.int .i64 (.ofNat 0)) fun t68 =>
j15 t68 h11) (j15 (.tup []) h11)) fun j12 =>
K.guK false t9 (j12 t2 h8) (j12 (.tup []) h8))
noncomputable def r140 : K.KRun → List AV → H → K.KR := fun run args h => K.uncons args fun t0 l1 => K.unnil l1 (
K.letK (fun (l2 : List AV) (m3 : List Nat) (h4 : H) => K.uncons l2 fun t6 l7 => K.unnil l7 (
K.iteV t6 (
K.unmarkK m3 h4 fun h8 => .ok (.bool false) h8) (
K.unmarkK m3 h4 fun h9 => .ok (.bool true) h9))) fun j5 =>
K.eqK (K.binV ctx .eql 70 true t0 (.int .u8 (.ofNat 0))) t0 (.int .u8 (.ofNat 0)) fun t10 =>
K.iteV t10 (
j5 [t10] [] h) (
K.eqK (K.binV ctx .eql 70 true t0 (.int .u8 (.ofNat 1))) t0 (.int .u8 (.ofNat 1)) fun t11 =>
K.iteV t11 (
j5 [t11] [] h) (
K.eqK (K.binV ctx .eql 70 true t0 (.int .u8 (.ofNat 5))) t0 (.int .u8 (.ofNat 5)) fun t12 =>
j5 [t12] [] h)))
noncomputable def r141 : K.KRun → List AV → H → K.KR := fun run args h => K.uncons args fun t0 l1 => K.uncons l1 fun t2 l3 => K.unnil l3 (
K.ldK ctx 28 t2 h fun t4 =>
K.appK ctx 23 1 t4 t0 h fun t5 h6 =>
K.stK t2 t5 h6 fun h7 =>
K.unmarkK [] h7 fun h8 => .ok (.tup []) h8)
noncomputable def r142 : K.KRun → List AV → H → K.KR := fun run args h => K.uncons args fun t0 l1 => K.unnil l1 (
K.callFK run 179 [] h fun t2 h3 =>
K.allocK (K.zN ctx 132) (K.zT ctx 132) h3 fun t4 h5 =>
K.stK t4 (.func (.func 180) [t2] []) h5 fun h6 =>
K.letK (fun (l7 : List AV) (m8 : List Nat) (h9 : H) => K.uncons l7 fun t11 l12 => K.unnil l12 (
K.callFK run 182 [t11] h9 fun t13 h14 =>
K.unmarkK m8 h14 fun h15 => .ok t13 h15)) fun j10 =>
K.callFK run 181 [t0] h6 fun t16 h17 =>
K.hNew h17 .marks fun r18 h19 => K.hNew h19 (.loop .ready none (K.mkT [3, 4, 10] [t2, t4, t16]) 4 r18) fun n20 h21 =>
K.rngK ctx run t16 n20 h21 (fun h23 => j10 [t2] (r18 :: []) h23) (fun h24 => K.unmarkK (r18 :: []) h24 fun h27 => .bad) fun i22 h25 => (Bool.rec (motive := fun _ => K.KR) (.bad) (j10 [t2] (r18 :: []) h25) (Nat.beq i22 0)))
noncomputable def r143 : K.KRun → List AV → H → K.KR := fun run args h => K.uncons args fun t0 l1 => K.uncons l1 fun t2 l3 => K.uncons l3 fun t4 l5 => K.unnil l5 (
K.boxK t0 h fun t6 h7 =>
K.lenVK t4 fun t8 =>
K.loopV (nat_lit 1000000) (fun s12 l9 m10 h11 => K.uncons l9 fun t13 l14 => K.uncons l14 fun t15 l16 => K.uncons l16 fun t17 l18 => K.uncons l18 fun t19 l20 => K.uncons l20 fun t21 l22 => K.unnil l22 (
K.ltK (K.binV ctx .lss 3 false t21 t19) t21 t19 fun t23 =>
K.iteV t23 (
K.idxSK 2 t17 t21 fun t24 =>
K.ldsK ctx 212 2 t24 h11 fun t25 =>
K.allocK (K.zN ctx 212) (K.zT ctx 212) h11 fun t26 h27 =>
K.stsK 2 t26 t25 h27 fun h28 =>
K.ldK ctx 119 t15 h28 fun t29 =>
K.callFK run 183 [t29, t13, (.func (.func 184) [] [t15, t26])] h28 fun t30 h31 =>
K.addK (K.binV ctx .add 3 true t21 (.int .i64 (.ofNat 1))) t21 (.int .i64 (.ofNat 1)) fun t32 =>
s12 [t13, t15, t17, t19, t32] m10 h31) (
K.unmarkK m10 h11 fun h33 => .ok (.tup []) h33))) [t2, t6, t4, t8, (.int .i64 (.ofNat 0))] [] h7)
noncomputable def r144N (N : Nat) : K.KRun → List AV → H → K.KR := fun run args h => K.uncons args fun t0 l1 => K.uncons l1 fun t2 l3 => K.uncons l3 fun t4 l5 => K.unnil l5 (
K.boxK t0 h fun t6 h7 =>
K.letK (fun (l8 : List AV) (m9 : List Nat) (h10 : H) => K.uncons l8 fun t12 l13 => K.uncons l13 fun t14 l15 => K.uncons l15 fun t16 l17 => K.unnil l17 (
K.callFK run 97 [t16] h10 fun t18 h19 =>
K.letK (fun (l20 : List AV) (m21 : List Nat) (h22 : H) => K.uncons l20 fun t24 l25 => K.uncons l25 fun t26 l27 => K.unnil l27 (
K.ldK ctx 119 t26 h22 fun t28 =>
K.ldK ctx 119 t26 h22 fun t29 =>
K.nilK t29 fun t30 =>
K.fldK 0 t30 fun t31 =>
K.ldK ctx 38 t31 h22 fun t32 =>
K.callFK run 183 [t28, t24, (.func (.func 188) [t32] [])] h22 fun t33 h34 =>
K.unmarkK m21 h34 fun h35 => .ok (.tup []) h35)) fun j23 =>
K.callFK run 185 [t16] h19 fun t36 h37 =>
K.lenVK t36 fun t38 =>
K.loopV N (fun s42 l39 m40 h41 => K.uncons l39 fun t43 l44 => K.uncons l44 fun t45 l46 => K.uncons l46 fun t47 l48 => K.uncons l48 fun t49 l50 => K.uncons l50 fun t51 l52 => K.unnil l52 (
K.ltK (K.binV ctx .lss 3 false t51 t49) t51 t49 fun t53 =>
K.iteV t53 (
K.idxSK 1 t47 t51 fun t54 =>
K.ldK ctx 3 t54 h41 fun t55 =>
K.allocK (K.zN ctx 3) (K.zT ctx 3) h41 fun t56 h57 =>
K.stK t56 t55 h57 fun h58 =>
K.ldK ctx 119 t45 h58 fun t59 =>
K.callFK run 183 [t59, t43, (.func (.func 186) [] [t45, t56])] h58 fun t60 h61 =>
K.addK (K.binV ctx .add 3 true t51 (.int .i64 (.ofNat 1))) t51 (.int .i64 (.ofNat 1)) fun t62 =>
s42 [t43, t45, t47, t49, t62] m40 h61) (
j23 [t43, t45] m40 h41))) [t12, t14, t36, t38, (.int .i64 (.ofNat 0))] m9 h37)) fun j11 =>
K.lenVK t4 fun t63 =>
K.loopV N (fun s67 l64 m65 h66 => K.uncons l64 fun t68 l69 => K.uncons l69 fun t70 l71 => K.uncons l71 fun t72 l73 => K.uncons l73 fun t74 l75 => K.uncons l75 fun t76 l77 => K.uncons l77 fun t78 l79 => K.unnil l79 (
K.ltK (K.binV ctx .lss 3 false t78 t76) t78 t76 fun t80 =>
K.iteV t80 (
K.idxSK 2 t74 t78 fun t81 =>
K.ldsK ctx 212 2 t81 h66 fun t82 =>
K.allocK (K.zN ctx 212) (K.zT ctx 212) h66 fun t83 h84 =>
K.stsK 2 t83 t82 h84 fun h85 =>
K.fldK 0 t83 fun t86 =>
K.ldK ctx 3 t86 h85 fun t87 =>
K.oK (K.binV ctx .quo 3 true t87 (.int .i64 (.ofNat 8))) fun t88 =>
K.bslK ctx 3 1 1 [(0, t88)] h85 fun t89 h90 =>
K.appK ctx 3 1 t72 t89 h90 fun t91 h92 =>
K.addK (K.binV ctx .add 3 true t78 (.int .i64 (.ofNat 1))) t78 (.int .i64 (.ofNat 1)) fun t93 =>
s67 [t68, t70, t91, t74, t76, t93] m65 h92) (
j11 [t68, t70, t72] m65 h66))) [t2, t6, .nilSlice, t4, t63, (.int .i64 (.ofNat 0))] [] h7)
noncomputable def r144 : K.KRun → List AV → H → K.KR := r144N (nat_lit 1000000)
noncomputable def r145 : K.KRun → List AV → H → K.KR := fun run args h => K.uncons args fun t0 l1 => K.unnil l1 (
K.lenVK t0 fun t2 =>
K.eqK (K.binV ctx .eql 3 true t2 (.int .i64 (.ofNat 0))) t2 (.int .i64 (.ofNat 0)) fun t3 =>
K.letK (fun (t4 : AV) (h5 : H) => K.letK (fun (t7 : AV) (h8 : H) => K.letK (fun (t10 : AV) (h11 : H) => K.letK (fun (t13 : AV) (h14 : H) => K.pickK t3 (.bool true) t13 fun t16 =>
K.iteV t16 (
K.unmarkK [] h14 fun h17 => .ok (.tup [.nilSlice, (.int .u64 (.ofNat 0)), (.bool false)]) h17) (
K.idxSK 1 t0 (.int .i64 (.ofNat 0)) fun t18 =>
K.ldK ctx 23 t18 h14 fun t19 =>
K.rK (convA ctx 23 3 t19 h14) fun t20 h21 =>
K.mulK (K.binV ctx .mul 3 true (.int .i64 (.ofNat 2)) t20) (.int .i64 (.ofNat 2)) t20 fun t22 =>
K.addK (K.binV ctx .add 3 true (.int .i64 (.ofNat 1)) t22) (.int .i64 (.ofNat 1)) t22 fun t23 =>
K.lenVK t0 fun t24 =>
K.leK (K.binV ctx .leq 3 false t24 t23) t24 t23 fun t25 =>
K.iteV t25 (
K.unmarkK [] h21 fun h26 => .ok (.tup [.nilSlice, (.int .u64 (.ofNat 0)), (.bool false)]) h26) (
K.slcK ctx 28 t0 none (some t23) none h21 fun t27 =>
K.idxSK 1 t0 t23 fun t28 =>
K.ldK ctx 23 t28 h21 fun t29 =>
K.unmarkK [] h21 fun h30 => .ok (.tup [t27, t29, (.bool true)]) h30))) fun j15 =>
K.guK false t3 (K.gtK (K.binV ctx .gtr 23 true t10 (.int .u64 (.ofNat 96))) t10 (.int .u64 (.ofNat 96)) fun t31 =>
j15 t31 h11) (j15 (.tup []) h11)) fun j12 =>
K.guK false t3 (K.ldK ctx 23 t7 h8 fun t32 =>
j12 t32 h8) (j12 (.tup []) h8)) fun j9 =>
K.guK false t3 (K.idxSK 1 t4 (.int .i64 (.ofNat 0)) fun t33 =>
j9 t33 h5) (j9 (.tup []) h5)) fun j6 =>
K.guK false t3 (j6 t0 h) (j6 (.tup []) h))
noncomputable def r146 : K.KRun → List AV → H → K.KR := fun run args h => K.uncons args fun t0 l1 => K.uncons l1 fun t2 l3 => K.unnil l3 (
K.callFK run 129 [t0, t2] h fun t4 h5 =>
K.eqK (K.binV ctx .eql 3 true t4 (.int .i64 (.negSucc 0))) t4 (.int .i64 (.negSucc 0)) fun t6 =>
K.iteV t6 (
K.unmarkK [] h5 fun h7 => .ok t0 h7) (
K.letK (fun (l8 : List AV) (m9 : List Nat) (h10 : H) => K.uncons l8 fun t12 l13 => K.uncons l13 fun t14 l15 => K.unnil l15 (
K.slcK ctx 95 t12 (some t14) none none h10 fun t16 =>
K.slowK ctx run (K.opAt Go.Proofs.Tryz.f146 11 3) [38] [t16] h10 fun t17 h18 =>
K.slcK ctx 95 t12 none (some t14) none h18 fun t19 =>
K.unmarkK m9 h18 fun h20 => .ok t19 h20)) fun j11 =>
K.addK (K.binV ctx .add 3 true t4 (.int .i64 (.ofNat 1))) t4 (.int .i64 (.ofNat 1)) fun t21 =>
K.loopV (nat_lit 1000000) (fun s25 l22 m23 h24 => K.uncons l22 fun t26 l27 => K.uncons l27 fun t28 l29 => K.uncons l29 fun t30 l31 => K.uncons l31 fun t32 l33 => K.unnil l33 (
K.lenVK t26 fun t34 =>
K.ltK (K.binV ctx .lss 3 false t32 t34) t32 t34 fun t35 =>
K.iteV t35 (
K.letK (fun (l36 : List AV) (m37 : List Nat) (h38 : H) => K.uncons l36 fun t40 l41 => K.uncons l41 fun t42 l43 => K.uncons l43 fun t44 l45 => K.uncons l45 fun t46 l47 => K.unnil l47 (
K.addK (K.binV ctx .add 3 true t46 (.int .i64 (.ofNat 1))) t46 (.int .i64 (.ofNat 1)) fun t48 =>
s25 [t40, t42, t44, t48] m37 h38)) fun j39 =>
K.idxSK 1 t26 t32 fun t49 =>
K.ldK ctx 3 t49 h24 fun t50 =>
K.callVK run t28 [t50] h24 fun t51 h52 =>
K.notK t51 fun t53 =>
K.iteV t53 (
K.idxSK 1 t26 t30 fun t54 =>
K.stK t54 t50 h52 fun h55 =>
K.addK (K.binV ctx .add 3 true t30 (.int .i64 (.ofNat 1))) t30 (.int .i64 (.ofNat 1)) fun t56 =>
j39 [t26, t28, t56, t32] m23 h55) (
j39 [t26, t28, t30, t32] m23 h52)) (
j11 [t26, t30] m23 h24))) [t0, t2, t4, t21] [] h5))
noncomputable def r148 : K.KRun → List AV → H → K.KR := fun run args h => K.uncons args fun t0 l1 => K.unnil l1 (
K.boxK t0 h fun t2 h3 =>
K.unmarkK [] h3 fun h4 => .ok (.func (.func 189) [] [t2]) h4)
noncomputable def r156 : K.KRun → List AV → H → K.KR := fun run args h => K.uncons args fun t0 l1 => K.uncons l1 fun t2 l3 => K.unnil l3 (
K.callFK run 128 [t0, t2, (.int .i64 (.ofNat 4)), (.int .i64 (.ofNat 56)), (.int .i64 (.ofNat 2))] h fun t4 h5 =>
K.unmarkK [] h5 fun h6 => .ok t4 h6)
noncomputable def r157N (N : Nat) : K.KRun → List AV → H → K.KR := fun run args h => K.uncons args fun t0 l1 => K.uncons l1 fun t2 l3 => K.uncons l3 fun t4 l5 => K.unnil l5 (
K.addK (K.binV ctx .add 3 true t2 (.int .i64 (.ofNat 1))) t2 (.int .i64 (.ofNat 1)) fun t6 =>
K.loopV N (fun s10 l7 m8 h9 => K.uncons l7 fun t11 l12 => K.uncons l12 fun t13 l14 => K.uncons l14 fun t15 l16 => K.uncons l16 fun t17 l18 => K.unnil l18 (
K.ltK (K.binV ctx .lss 3 false t17 t15) t17 t15 fun t19 =>
K.iteV t19 (
K.letK (fun (l20 : List AV) (m21 : List Nat) (h22 : H) => K.uncons l20 fun t24 l25 => K.uncons l25 fun t26 l27 => K.uncons l27 fun t28 l29 => K.uncons l29 fun t30 l31 => K.unnil l31 (
K.addK (K.binV ctx .add 3 true t30 (.int .i64 (.ofNat 1))) t30 (.int .i64 (.ofNat 1)) fun t32 =>
s10 [t24, t26, t28, t32] m21 h22)) fun j23 =>
K.loopV N (fun s36 l33 m34 h35 => K.uncons l33 fun t37 l38 => K.uncons l38 fun t39 l40 => K.uncons l40 fun t41 l42 => K.uncons l42 fun t43 l44 => K.uncons l44 fun t45 l46 => K.unnil l46 (
K.gtK (K.binV ctx .gtr 3 false t45 t39) t45 t39 fun t47 =>
K.letK (fun (t48 : AV) (h49 : H) => K.letK (fun (t51 : AV) (h52 : H) => K.letK (fun (t54 : AV) (h55 : H) => K.letK (fun (t57 : AV) (h58 : H) => K.letK (fun (t60 : AV) (h61 : H) => K.letK (fun (t63 : AV) (h64 : H) => K.letK (fun (t66 : AV) (h67 : H) => K.letK (fun (t69 : AV) (h70 : H) => K.letK (fun (t72 : AV) (h73 : H) => K.letK (fun (t75 : AV) (h76 : H) => K.pickK t47 t75 (.bool false) fun t78 =>
K.iteV t78 (
K.subK (K.binV ctx .sub 3 true t45 (.int .i64 (.ofNat 1))) t45 (.int .i64 (.ofNat 1)) fun t79 =>
K.subK (K.binV ctx .sub 3 true t45 (.int .i64 (.ofNat 1))) t45 (.int .i64 (.ofNat 1)) fun t80 =>
K.idxSK 1 t37 t80 fun t81 =>
K.ldK ctx 3 t81 h76 fun t82 =>
K.idxSK 1 t37 t45 fun t83 =>
K.ldK ctx 3 t83 h76 fun t84 =>
K.idxSK 1 t37 t45 fun t85 =>
K.stK t85 t82 h76 fun h86 =>
K.idxSK 1 t37 t79 fun t87 =>
K.stK t87 t84 h86 fun h88 =>
K.subK (K.binV ctx .sub 3 true t45 (.int .i64 (.ofNat 1))) t45 (.int .i64 (.ofNat 1)) fun t89 =>
s36 [t37, t39, t41, t43, t89] m34 h88) (
j23 [t37, t39, t41, t43] m34 h76)) fun j77 =>
K.guK true t47 (K.callFK run 163 [t57, t72] h73 fun t90 h91 =>
j77 t90 h91) (j77 (.tup []) h73)) fun j74 =>
K.guK true t47 (K.ldK ctx 3 t69 h70 fun t92 =>
j74 t92 h70) (j74 (.tup []) h70)) fun j71 =>
K.guK true t47 (K.idxSK 1 t60 t66 fun t93 =>
j71 t93 h67) (j71 (.tup []) h67)) fun j68 =>
K.guK true t47 (K.subK (K.binV ctx .sub 3 true t63 (.int .i64 (.ofNat 1))) t63 (.int .i64 (.ofNat 1)) fun t94 =>
j68 t94 h64) (j68 (.tup []) h64)) fun j65 =>
K.guK true t47 (j65 t45 h61) (j65 (.tup []) h61)) fun j62 =>
K.guK true t47 (j62 t37 h58) (j62 (.tup []) h58)) fun j59 =>
K.guK true t47 (K.ldK ctx 3 t54 h55 fun t95 =>
j59 t95 h55) (j59 (.tup []) h55)) fun j56 =>
K.guK true t47 (K.idxSK 1 t48 t51 fun t96 =>
j56 t96 h52) (j56 (.tup []) h52)) fun j53 =>
K.guK true t47 (j53 t45 h49) (j53 (.tup []) h49)) fun j50 =>
K.guK true t47 (j50 t37 h35) (j50 (.tup []) h35))) [t11, t13, t15, t17, t17] m8 h9) (
K.unmarkK m8 h9 fun h97 => .ok (.tup []) h97))) [t0, t2, t4, t6] [] h)
noncomputable def r157 : K.KRun → List AV → H → K.KR := r157N (nat_lit 1000000)
noncomputable def r163 : K.KRun → List AV → H → K.KR := fun run args h => K.uncons args fun t0 l1 => K.uncons l1 fun t2 l3 => K.unnil l3 (
K.callFK run 217 [t0] h fun t4 h5 =>
K.letK (fun (t6 : AV) (h7 : H) => K.letK (fun (t9 : AV) (h10 : H) => K.letK (fun (t12 : AV) (h13 : H) => K.pickK t4 t12 (.bool false) fun t15 =>
K.letK (fun (t16 : AV) (h17 : H) => K.letK (fun (t19 : AV) (h20 : H) => K.letK (fun (t22 : AV) (h23 : H) => K.pickK t15 (.bool true) t22 fun t25 =>
K.unmarkK [] h23 fun h26 => .ok t25 h26) fun j24 =>
K.guK false t15 (K.ltK (K.binV ctx .lss 3 false t16 t19) t16 t19 fun t27 =>
j24 t27 h20) (j24 (.tup []) h20)) fun j21 =>
K.guK false t15 (j21 t2 h17) (j21 (.tup []) h17)) fun j18 =>
K.guK false t15 (j18 t0 h13) (j18 (.tup []) h13)) fun j14 =>
K.guK true t4 (K.notK t9 fun t28 =>
j14 t28 h10) (j14 (.tup []) h10)) fun j11 =>
K.guK true t4 (K.callFK run 217 [t6] h7 fun t29 h30 =>
j11 t29 h30) (j11 (.tup []) h7)) fun j8 =>
K.guK true t4 (j8 t2 h5) (j8 (.tup []) h5))
end YthlpjeoddenioaaGreatDoorSfM
