/- PRINTED BY Gen2.lean (own): functions as plain texts, part 5. -/
import Derived.Test.YtlmgehjkbgaknaaGreatDoorPlCtx
namespace YtlmgehjkbgaknaaGreatDoorPlM
open Go Am
set_option maxRecDepth 100000
noncomputable def y8 : K.RnF := fun run l args env h => K.uncons args fun t0 l1 => K.unnil l1 (
K.opt (K.get env 2) fun t2 => K.opt (K.get env 3) fun t3 => K.opt (K.get env 4) fun t4 => K.begR l h fun h5 =>
K.fldK 4 t2 fun t6 =>
K.ldK ctx 299 t6 h5 fun t7 =>
K.callFK run 221 [t7, t0] h5 fun t8 h9 =>
K.extK t8 0 fun t10 =>
K.extK t8 1 fun t11 =>
K.neK (K.binV ctx .neq 3 true t10 (.int .i64 (.ofNat 0))) t10 (.int .i64 (.ofNat 0)) fun t12 =>
K.letK (fun (t13 : AV) (h14 : H) => K.letK (fun (t16 : AV) (h17 : H) => K.pickK t12 (.bool true) t16 fun t19 =>
K.iteV t19 (
K.finR l h17 .ready none true) (
K.fldK 4 t2 fun t20 =>
K.ldK ctx 299 t20 h17 fun t21 =>
K.callFK run 225 [t21, t0] h17 fun t22 h23 =>
K.extK t22 0 fun t24 =>
K.extK t22 1 fun t25 =>
K.neK (K.binV ctx .neq 28 true t25 (.int .i64 (.ofNat 0))) t25 (.int .i64 (.ofNat 0)) fun t26 =>
K.iteV t26 (
K.stK t4 t25 h23 fun h27 =>
K.finR l h27 .done (some .ret) false) (
K.letK (fun (l28 : List AV) (m29 : List Nat) (h30 : H) => K.uncons l28 fun t32 l33 => K.unnil l33 (
K.stK t32 (.int .i64 (.ofNat 0)) h30 fun h34 =>
K.finR l h34 .done (some .ret) false)) fun j31 =>
K.fldK 1 t3 fun t35 =>
K.ldK ctx 3 t35 h23 fun t36 =>
K.rK (convA ctx 3 24 t36 h23) fun t37 h38 =>
K.fldK 0 t3 fun t39 =>
K.ldK ctx 9 t39 h38 fun t40 =>
K.lenTK t40 fun t41 =>
K.rK (convA ctx 3 24 t41 h38) fun t42 h43 =>
K.fldK 0 t3 fun t44 =>
K.ldK ctx 9 t44 h43 fun t45 =>
K.callFK run 69 [t45] h43 fun t46 h47 =>
K.ldK ctx 9 t39 h47 fun t48 =>
K.req (AV.same t40 t48) (
K.ldK ctx 3 t35 h47 fun t49 =>
K.req (AV.same t36 t49) (
K.bslK ctx 24 1 2 [(0, t37), (1, t42)] h47 fun t50 h51 =>
K.appK ctx 24 1 t50 t46 h51 fun t52 h53 =>
K.lenVK t52 fun t54 =>
K.loopV (nat_lit 1000000) (fun s58 l55 m56 h57 => K.uncons l55 fun t59 l60 => K.uncons l60 fun t61 l62 => K.uncons l62 fun t63 l64 => K.uncons l64 fun t65 l66 => K.uncons l66 fun t67 l68 => K.uncons l68 fun t69 l70 => K.unnil l70 (
K.ltK (K.binV ctx .lss 3 false t69 t67) t69 t67 fun t71 =>
K.iteV t71 (
K.idxSK 1 t65 t69 fun t72 =>
K.ldK ctx 24 t72 h57 fun t73 =>
K.fldK 0 t59 fun t74 =>
K.ldK ctx 43 t74 h57 fun t75 =>
K.fldK 1 t59 fun t76 =>
K.ldsK ctx 23 3 t76 h57 fun t77 =>
K.callFK run 227 [t77, t63] h57 fun t78 h79 =>
K.ldK ctx 43 t74 h79 fun t80 =>
K.req (AV.same t75 t80) (
K.addK (K.binV ctx .add 3 false t78 t69) t78 t69 fun t81 =>
K.callFK run 124 [t75, t81, t73] h79 fun t82 h83 =>
K.neK (K.binV ctx .neq 28 true t82 (.int .i64 (.ofNat 0))) t82 (.int .i64 (.ofNat 0)) fun t84 =>
K.iteV t84 (
K.stK t61 t82 h83 fun h85 =>
K.finR l h85 .done (some .ret) false) (
K.addK (K.binV ctx .add 3 true t69 (.int .i64 (.ofNat 1))) t69 (.int .i64 (.ofNat 1)) fun t86 =>
s58 [t59, t61, t63, t65, t67, t86] m56 h83))) (
j31 [t61] m56 h57))) [t2, t4, t24, t52, t54, (.int .i64 (.ofNat 0))] [] h53))))) fun j18 =>
K.guK false t12 (K.neK (K.binV ctx .neq 28 true t13 (.int .i64 (.ofNat 0))) t13 (.int .i64 (.ofNat 0)) fun t87 =>
j18 t87 h14) (j18 (.tup []) h14)) fun j15 =>
K.guK false t12 (j15 t11 h9) (j15 (.tup []) h9))
noncomputable def y9 : K.RnF := fun run l args env h => K.uncons args fun t0 l1 => K.uncons l1 fun t2 l3 => K.unnil l3 (
K.opt (K.get env 1) fun t4 => K.opt (K.get env 2) fun t5 => K.opt (K.get env 3) fun t6 => K.begR l h fun h7 =>
K.oK (unA .xor t2) fun t8 =>
K.callFK run 370 [t8] h7 fun t9 h10 =>
K.addK (K.binV ctx .add 3 false t0 t9) t0 t9 fun t11 =>
K.addK (K.binV ctx .add 3 true t0 (.int .i64 (.ofNat 64))) t0 (.int .i64 (.ofNat 64)) fun t12 =>
K.ltK (K.binV ctx .lss 3 false t11 t12) t11 t12 fun t13 =>
K.letK (fun (t14 : AV) (h15 : H) => K.letK (fun (t17 : AV) (h18 : H) => K.letK (fun (t20 : AV) (h21 : H) => K.letK (fun (t23 : AV) (h24 : H) => K.letK (fun (t26 : AV) (h27 : H) => K.letK (fun (t29 : AV) (h30 : H) => K.pickK t13 t29 (.bool false) fun t32 =>
K.iteV t32 (
K.stK t5 t11 h30 fun h33 =>
K.stK t6 (.bool true) h33 fun h34 =>
K.finR l h34 .done (some .ret) false) (
K.finR l h30 .ready none true)) fun j31 =>
K.guK true t13 (K.ltK (K.binV ctx .lss 3 false t14 t26) t14 t26 fun t35 =>
j31 t35 h27) (j31 (.tup []) h27)) fun j28 =>
K.guK true t13 (K.ldK ctx 3 t23 h24 fun t36 =>
j28 t36 h24) (j28 (.tup []) h24)) fun j25 =>
K.guK true t13 (K.fldK 2 t20 fun t37 =>
j25 t37 h21) (j25 (.tup []) h21)) fun j22 =>
K.guK true t13 (K.nilK t17 fun t38 =>
j22 t38 h18) (j22 (.tup []) h18)) fun j19 =>
K.guK true t13 (K.ldK ctx 378 t4 h15 fun t39 =>
j19 t39 h15) (j19 (.tup []) h15)) fun j16 =>
K.guK true t13 (j16 t11 h10) (j16 (.tup []) h10))
noncomputable def y10 : K.RnF := fun run l args env h => K.uncons args fun t0 l1 => K.uncons l1 fun t2 l3 => K.unnil l3 (
K.opt (K.get env 2) fun t4 => K.begR l h fun h5 =>
K.ldK ctx 3 t4 h5 fun t6 =>
K.callFK run 381 [t2] h5 fun t7 h8 =>
K.ldK ctx 3 t4 h8 fun t9 =>
K.req (AV.same t6 t9) (
K.addK (K.binV ctx .add 3 false t6 t7) t6 t7 fun t10 =>
K.stK t4 t10 h8 fun h11 =>
K.finR l h11 .ready none true))
end YtlmgehjkbgaknaaGreatDoorPlM
