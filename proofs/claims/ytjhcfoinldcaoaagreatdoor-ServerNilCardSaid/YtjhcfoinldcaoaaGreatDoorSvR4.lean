/- PRINTED BY Gen2.lean (own): functions as plain texts, part 4. -/
import Derived.Test.YtjhcfoinldcaoaaGreatDoorSvCtx
namespace YtjhcfoinldcaoaaGreatDoorSvM
open Go Am
set_option maxRecDepth 100000
noncomputable def r284 : K.KRun → List AV → H → K.KR := fun run args h => K.uncons args fun t0 l1 => K.uncons l1 fun t2 l3 => K.uncons l3 fun t4 l5 => K.unnil l5 (
K.eqK (K.binV ctx .eql 97 true t0 .nilPtr) t0 .nilPtr fun t6 =>
K.iteV t6 (
K.unmarkK [] h fun h7 => .ok (.int .i64 (.ofNat 2)) h7) (
K.letK (fun (l8 : List AV) (m9 : List Nat) (h10 : H) => K.uncons l8 fun t12 l13 => K.uncons l13 fun t14 l15 => K.uncons l15 fun t16 l17 => K.uncons l17 fun t18 l19 => K.unnil l19 (
K.iteV t18 (
K.unmarkK m9 h10 fun h20 => .ok (.int .i64 (.ofNat 8)) h20) (
K.callFK run 104 [t12, t14] h10 fun t21 h22 =>
K.eqK (K.binV ctx .eql 23 false t21 t16) t21 t16 fun t23 =>
K.iteV t23 (
K.unmarkK m9 h22 fun h24 => .ok (.int .i64 (.ofNat 0)) h24) (
K.callFK run 314 [t12, t14, t16] h22 fun t25 h26 =>
K.unmarkK m9 h26 fun h27 => .ok t25 h27)))) fun j11 =>
K.ltK (K.binV ctx .lss 3 true t2 (.int .i64 (.ofNat 0))) t2 (.int .i64 (.ofNat 0)) fun t28 =>
K.iteV t28 (
j11 [t0, t2, t4, t28] [] h) (
K.callFK run 163 [t0] h fun t29 h30 =>
K.geK (K.binV ctx .geq 3 false t2 t29) t2 t29 fun t31 =>
j11 [t0, t2, t4, t31] [] h30)))
noncomputable def r290 : K.KRun → List AV → H → K.KR := fun run args h => K.uncons args fun t0 l1 => K.uncons l1 fun t2 l3 => K.unnil l3 (
K.ldK ctx 50 t2 h fun t4 =>
K.lenVK t4 fun t5 =>
K.loopV (nat_lit 1000000) (fun s9 l6 m7 h8 => K.uncons l6 fun t10 l11 => K.uncons l11 fun t12 l13 => K.uncons l13 fun t14 l15 => K.uncons l15 fun t16 l17 => K.unnil l17 (
K.ltK (K.binV ctx .lss 3 false t16 t14) t16 t14 fun t18 =>
K.iteV t18 (
K.idxSK 1 t12 t16 fun t19 =>
K.ldK ctx 23 t19 h8 fun t20 =>
K.callVK run t10 [t20] h8 fun t21 h22 =>
K.notK t21 fun t23 =>
K.iteV t23 (
K.unmarkK m7 h22 fun h24 => .ok (.tup []) h24) (
K.addK (K.binV ctx .add 3 true t16 (.int .i64 (.ofNat 1))) t16 (.int .i64 (.ofNat 1)) fun t25 =>
s9 [t10, t12, t14, t25] m7 h22)) (
K.unmarkK m7 h8 fun h26 => .ok (.tup []) h26))) [t0, t4, t5, (.int .i64 (.ofNat 0))] [] h)
noncomputable def r314 : K.KRun → List AV → H → K.KR := fun run args h => K.uncons args fun t0 l1 => K.uncons l1 fun t2 l3 => K.uncons l3 fun t4 l5 => K.unnil l5 (
K.eqK (K.binV ctx .eql 97 true t0 .nilPtr) t0 .nilPtr fun t6 =>
K.iteV t6 (
K.unmarkK [] h fun h7 => .ok (.int .i64 (.ofNat 2)) h7) (
K.callFK run 133 [t0, t2] h fun t8 h9 =>
K.notK t8 fun t10 =>
K.iteV t10 (
K.unmarkK [] h9 fun h11 => .ok (.int .i64 (.ofNat 8)) h11) (
K.letK (fun (l12 : List AV) (m13 : List Nat) (h14 : H) => K.uncons l12 fun t16 l17 => K.uncons l17 fun t18 l19 => K.uncons l19 fun t20 l21 => K.unnil l21 (
K.nilK t16 fun t22 =>
K.fldK 1 t22 fun t23 =>
K.ldK ctx 149 t23 h14 fun t24 =>
K.slowK ctx run (K.opAt Go.Proofs.Tryz.f314 10 6) [45, 46, 47] [t24, t18, t20] h14 fun t25 h26 =>
K.unmarkK m13 h26 fun h27 => .ok (.int .i64 (.ofNat 0)) h27)) fun j15 =>
K.nilK t0 fun t28 =>
K.fldK 1 t28 fun t29 =>
K.ldK ctx 149 t29 h9 fun t30 =>
K.slowK ctx run (K.opAt Go.Proofs.Tryz.f314 5 5) [19, 20] [t30, t2] h9 fun t31 h32 =>
K.extK t31 0 fun t33 =>
K.extK t31 1 fun t34 =>
K.notK t34 fun t35 =>
K.iteV t35 (
K.nilK t0 fun t36 =>
K.fldK 2 t36 fun t37 =>
K.ldK ctx 85 t37 h32 fun t38 =>
K.lenVK t38 fun t39 =>
K.geK (K.binV ctx .geq 3 true t39 (.int .i64 (.ofNat 96))) t39 (.int .i64 (.ofNat 96)) fun t40 =>
K.iteV t40 (
K.unmarkK [] h32 fun h41 => .ok (.int .i64 (.ofNat 5)) h41) (
K.nilK t0 fun t42 =>
K.fldK 2 t42 fun t43 =>
K.ldK ctx 85 t43 h32 fun t44 =>
K.bslK ctx 3 1 1 [(0, t2)] h32 fun t45 h46 =>
K.appK ctx 3 1 t44 t45 h46 fun t47 h48 =>
K.nilK t0 fun t49 =>
K.fldK 2 t49 fun t50 =>
K.stK t50 t47 h48 fun h51 =>
j15 [t0, t2, t4] [] h51)) (
j15 [t0, t2, t4] [] h32))))
noncomputable def y1 : K.RnF := fun run l args env h => K.uncons args fun t0 l1 => K.unnil l1 (
K.opt (K.get env 5) fun t2 => K.begR l h fun h3 =>
K.ldK ctx 157 t2 h3 fun t4 =>
K.callVK run t4 [t0] h3 fun t5 h6 =>
K.finR l h6 .ready none true)
noncomputable def y2 : K.RnF := fun run l args env h => K.uncons args fun t0 l1 => K.unnil l1 (
K.begR l h fun h2 =>
K.nilK t0 fun t3 =>
K.fldK 2 t3 fun t4 =>
K.fldK 1 t4 fun t5 =>
K.ldK ctx 4 t5 h2 fun t6 =>
K.notK t6 fun t7 =>
K.iteV t7 (
K.finR l h2 .ready none true) (
K.nilK t0 fun t8 =>
K.fldK 2 t8 fun t9 =>
K.fldK 2 t9 fun t10 =>
K.ldK ctx 4 t10 h2 fun t11 =>
K.nilK t0 fun t12 =>
K.fldK 2 t12 fun t13 =>
K.fldK 3 t13 fun t14 =>
K.ldK ctx 23 t14 h2 fun t15 =>
K.callFK run 69 [t0, t15] h2 fun t16 h17 =>
K.nilK t0 fun t18 =>
K.fldK 2 t18 fun t19 =>
K.fldK 0 t19 fun t20 =>
K.stK t20 t11 h17 fun h21 =>
K.nilK t0 fun t22 =>
K.fldK 2 t22 fun t23 =>
K.fldK 2 t23 fun t24 =>
K.stK t24 t11 h21 fun h25 =>
K.finR l h25 .ready none true))
noncomputable def y3 : K.RnF := fun run l args env h => K.uncons args fun t0 l1 => K.unnil l1 (
K.opt (K.get env 2) fun t2 => K.begR l h fun h3 =>
K.ldK ctx 85 t2 h3 fun t4 =>
K.bslK ctx 3 1 1 [(0, t0)] h3 fun t5 h6 =>
K.appK ctx 3 1 t4 t5 h6 fun t7 h8 =>
K.stK t2 t7 h8 fun h9 =>
K.finR l h9 .ready none true)
noncomputable def y4 : K.RnF := fun run l args env h => K.uncons args fun t0 l1 => K.unnil l1 (
K.opt (K.get env 4) fun t2 => K.begR l h fun h3 =>
K.nilK t0 fun t4 =>
K.fldK 1 t4 fun t5 =>
K.ldK ctx 85 t5 h3 fun t6 =>
K.idxSK 1 t6 (.int .i64 (.ofNat 0)) fun t7 =>
K.ldK ctx 3 t7 h3 fun t8 =>
K.addK (K.binV ctx .add 3 true t8 (.int .i64 (.ofNat 1))) t8 (.int .i64 (.ofNat 1)) fun t9 =>
K.nilK t0 fun t10 =>
K.fldK 1 t10 fun t11 =>
K.ldK ctx 85 t11 h3 fun t12 =>
K.slcK ctx 85 t12 (some (.int .i64 (.ofNat 1))) none none h3 fun t13 =>
K.nilK t0 fun t14 =>
K.fldK 0 t14 fun t15 =>
K.stK t15 t9 h3 fun h16 =>
K.nilK t0 fun t17 =>
K.fldK 1 t17 fun t18 =>
K.stK t18 t13 h16 fun h19 =>
K.ldK ctx 85 t2 h19 fun t20 =>
K.bslK ctx 3 1 1 [(0, t8)] h19 fun t21 h22 =>
K.appK ctx 3 1 t20 t21 h22 fun t23 h24 =>
K.stK t2 t23 h24 fun h25 =>
K.finR l h25 .ready none true)
noncomputable def y5 : K.RnF := fun run l args env h => K.uncons args fun t0 l1 => K.unnil l1 (
K.opt (K.get env 4) fun t2 => K.begR l h fun h3 =>
K.ldK ctx 156 t2 h3 fun t4 =>
K.callVK run t4 [t0] h3 fun t5 h6 =>
K.finR l h6 .ready none true)
end YtjhcfoinldcaoaaGreatDoorSvM
