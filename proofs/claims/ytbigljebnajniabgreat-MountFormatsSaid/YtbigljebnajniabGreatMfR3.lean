/- PRINTED BY Gen2.lean (own): functions as plain texts, part 3. -/
import Derived.Test.YtbigljebnajniabGreatMfCtx
namespace YtbigljebnajniabGreatMfM
open Go Am
set_option maxRecDepth 100000
noncomputable def r7N (N : Nat) : K.KRun → List AV → H → K.KR := fun run args h => K.uncons args fun t0 l1 => K.unnil l1 (
K.lenVK t0 fun t2 =>
K.callFK run 15 [t2] h fun t3 h4 =>
K.extK t3 0 fun t5 =>
K.extK t3 1 fun t6 =>
K.neK (K.binV ctx .neq 32 true t6 (.int .i64 (.ofNat 0))) t6 (.int .i64 (.ofNat 0)) fun t7 =>
K.letK (fun (t8 : AV) (h9 : H) => K.letK (fun (t11 : AV) (h12 : H) => K.pickK t7 (.bool true) t11 fun t14 =>
K.iteV t14 (
K.unmarkK [] h12 fun h15 => .ok .nilPtr h15) (
K.letK (fun (l16 : List AV) (m17 : List Nat) (h18 : H) => K.uncons l16 fun t20 l21 => K.uncons l21 fun t22 l23 => K.unnil l23 (
K.letK (fun (l24 : List AV) (m25 : List Nat) (h26 : H) => K.uncons l24 fun t28 l29 => K.unnil l29 (
K.unmarkK m25 h26 fun h30 => .ok t28 h30)) fun j27 =>
K.loopV N (fun s34 l31 m32 h33 => K.uncons l31 fun t35 l36 => K.uncons l36 fun t37 l38 => K.uncons l38 fun t39 l40 => K.unnil l40 (
K.lenVK t35 fun t41 =>
K.oK (K.binV ctx .quo 3 true t41 (.int .i64 (.ofNat 8))) fun t42 =>
K.ltK (K.binV ctx .lss 3 false t39 t42) t39 t42 fun t43 =>
K.iteV t43 (
K.callFK run 28 [t37, t39] h33 fun t44 h45 =>
K.neK (K.binV ctx .neq 32 true t44 (.int .i64 (.ofNat 0))) t44 (.int .i64 (.ofNat 0)) fun t46 =>
K.iteV t46 (
K.unmarkK m32 h45 fun h47 => .ok .nilPtr h47) (
K.addK (K.binV ctx .add 3 true t39 (.int .i64 (.ofNat 1))) t39 (.int .i64 (.ofNat 1)) fun t48 =>
s34 [t35, t37, t48] m32 h45)) (
j27 [t37] m32 h33))) [t20, t22, (.int .i64 (.ofNat 0))] m17 h18)) fun j19 =>
K.loopV N (fun s52 l49 m50 h51 => K.uncons l49 fun t53 l54 => K.uncons l54 fun t55 l56 => K.uncons l56 fun t57 l58 => K.unnil l58 (
K.lenVK t53 fun t59 =>
K.ltK (K.binV ctx .lss 3 false t57 t59) t57 t59 fun t60 =>
K.iteV t60 (
K.idxSK 1 t53 t57 fun t61 =>
K.ldK ctx 37 t61 h51 fun t62 =>
K.neK (K.binV ctx .neq 37 true t62 (.int .u64 (.ofNat 0))) t62 (.int .u64 (.ofNat 0)) fun t63 =>
K.letK (fun (t64 : AV) (h65 : H) => K.letK (fun (t67 : AV) (h68 : H) => K.letK (fun (t70 : AV) (h71 : H) => K.letK (fun (t73 : AV) (h74 : H) => K.letK (fun (t76 : AV) (h77 : H) => K.letK (fun (t79 : AV) (h80 : H) => K.letK (fun (t82 : AV) (h83 : H) => K.letK (fun (t85 : AV) (h86 : H) => K.pickK t63 t85 (.bool false) fun t88 =>
K.iteV t88 (
K.unmarkK m50 h86 fun h89 => .ok .nilPtr h89) (
K.addK (K.binV ctx .add 3 true t57 (.int .i64 (.ofNat 1))) t57 (.int .i64 (.ofNat 1)) fun t90 =>
s52 [t53, t55, t90] m50 h86)) fun j87 =>
K.guK true t63 (K.neK (K.binV ctx .neq 32 true t82 (.int .i64 (.ofNat 0))) t82 (.int .i64 (.ofNat 0)) fun t91 =>
j87 t91 h83) (j87 (.tup []) h83)) fun j84 =>
K.guK true t63 (K.callFK run 27 [t64, t67, t79] h80 fun t92 h93 =>
j84 t92 h93) (j84 (.tup []) h80)) fun j81 =>
K.guK true t63 (K.ldK ctx 37 t76 h77 fun t94 =>
j81 t94 h77) (j81 (.tup []) h77)) fun j78 =>
K.guK true t63 (K.idxSK 1 t70 t73 fun t95 =>
j78 t95 h74) (j78 (.tup []) h74)) fun j75 =>
K.guK true t63 (j75 t57 h71) (j75 (.tup []) h71)) fun j72 =>
K.guK true t63 (j72 t53 h68) (j72 (.tup []) h68)) fun j69 =>
K.guK true t63 (j69 t57 h65) (j69 (.tup []) h65)) fun j66 =>
K.guK true t63 (j66 t55 h51) (j66 (.tup []) h51)) (
j19 [t53, t55] m50 h51))) [t0, t5, (.int .i64 (.ofNat 0))] [] h12)) fun j13 =>
K.guK false t7 (K.eqK (K.binV ctx .eql 30 true t8 .nilPtr) t8 .nilPtr fun t96 =>
j13 t96 h9) (j13 (.tup []) h9)) fun j10 =>
K.guK false t7 (j10 t5 h4) (j10 (.tup []) h4))
noncomputable def r7 := r7N 1000000
end YtbigljebnajniabGreatMfM
