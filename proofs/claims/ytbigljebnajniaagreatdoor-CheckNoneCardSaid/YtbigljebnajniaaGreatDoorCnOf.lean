import Derived.Test.YtbigljebnajniaaGreatDoorCnOk
import Derived.Test.YtbigljebnajniaaGreatDoorA4
namespace YtbigljebnajniaaGreatDoorCnM
open Go Am
set_option maxRecDepth 100000
theorem u21 (n : Nat) (args : List AV) (h : H) : K.run tb ty (n + 1) (.fn 21) args h = r21 (K.run tb ty n) args h := by kernel_rfl
theorem u12 (n : Nat) (args : List AV) (h : H) : K.run tb ty (n + 1) (.fn 12) args h = r12 (K.run tb ty n) args h := by kernel_rfl
theorem u22 (n : Nat) (args : List AV) (h : H) : K.run tb ty (n + 1) (.fn 22) args h = r22 (K.run tb ty n) args h := by kernel_rfl
theorem u13 (n : Nat) (args : List AV) (h : H) : K.run tb ty (n + 1) (.fn 13) args h = r13 (K.run tb ty n) args h := by kernel_rfl
theorem u5 (n : Nat) (args : List AV) (h : H) : K.run tb ty (n + 1) (.fn 5) args h = r5 (K.run tb ty n) args h := by kernel_rfl
theorem w21 (n : Nat) (a b c : Int) (h : H) : K.run tb ty (n + 1) (.fn 21) [.int .i64 a, .int .i64 b, .int .i64 c] h = .ok (.bool (leI b a && leI a c)) h := by
  rw [u21]
  unfold r21
  simp only [K.uncons_cons, K.unnil_nil, K.geK_int]
  cases leI b a <;> simp only [K.letK_eq, K.guK_t, cond_true, cond_false, K.pickK_b, K.unmarkK_nil, K.leK_int, Bool.true_and, Bool.false_and]
theorem c21 (n : Nat) (a b c : Int) (h : H) (q : AV → H → K.KR) : K.callFK (K.run tb ty (n + 1)) 21 [.int .i64 a, .int .i64 b, .int .i64 c] h q = q (.bool (leI b a && leI a c)) h := K.callFK_of (w21 n a b c h)
def mayB (a b c : Int) : Bool := leI 1 a && leI a 4 && (leI 2 b && leI b 64) && (leI 2 c && leI c 512)
theorem w12 (n : Nat) (a b c : Int) (h : H) : K.run tb ty (n + 2) (.fn 12) [.agg [.int .i64 a, .int .i64 b, .int .i64 c]] h = .ok (.bool (mayB a b c)) (newCells [.int .i64 a, .int .i64 b, .int .i64 c] h).2 := by
  rw [u12]
  unfold r12 mayB
  have e1 : (Int.ofNat 1) = 1 := rfl
  have e2 : (Int.ofNat 2) = 2 := rfl
  have e3 : (Int.ofNat 64) = 64 := rfl
  have e4 : (Int.ofNat 4) = 4 := rfl
  have e5 : (Int.ofNat 512) = 512 := rfl
  simp only [K.uncons_cons, K.unnil_nil, K.boxK_agg, K.fldK_ptr, Nat.zero_add, Nat.add_zero, K.ldK_new, List.length_cons, List.length_nil, Nat.reduceAdd, Nat.reduceLT, List.getD_cons_zero, List.getD_cons_succ, c21]
  cases hb : (leI 1 a && leI a 4) <;> cases hc : (leI 2 b && leI b 64) <;> simp only [e1, e2, e3, e4, e5, hb, hc, K.letK_eq, K.guK_t, cond_true, cond_false, K.pickK_b, K.unmarkK_nil, K.fldK_ptr, Nat.zero_add, K.ldK_new, List.length_cons, List.length_nil, Nat.reduceAdd, Nat.reduceLT, List.getD_cons_zero, List.getD_cons_succ, c21, Bool.true_and, Bool.false_and]
theorem c12 (n : Nat) (a b c : Int) (h : H) (q : AV → H → K.KR) : K.callFK (K.run tb ty (n + 2)) 12 [.agg [.int .i64 a, .int .i64 b, .int .i64 c]] h q = q (.bool (mayB a b c)) (newCells [.int .i64 a, .int .i64 b, .int .i64 c] h).2 := K.callFK_of (w12 n a b c h)
theorem b62 (x y z : Int) (g : AV → K.KR) : K.bldSK ctx 62 [(0, .int .u8 x), (1, .int .i64 y), (2, .int .i64 z)] g = g (.agg [.int .u8 x, .int .i64 y, .int .i64 z]) := K.bldSK_of (fun f => by kernel_rfl)
def rowL (x y z : Int) : List AV := [.int .u8 x, .int .i64 y, .int .i64 z]
def rowsL (a b c : Int) : List AV := rowL 1 8 1 ++ rowL 2 64 4 ++ rowL 5 208 a ++ rowL 6 8 1 ++ rowL 7 8 1 ++ rowL 8 16 b ++ rowL 9 8 c
theorem b63 (a b c : Int) (g : AV → K.KR) : K.bldAK ctx 63 3 [(0, .agg (rowL 1 8 1)), (1, .agg (rowL 2 64 4)), (2, .agg (rowL 5 208 a)), (3, .agg (rowL 6 8 1)), (4, .agg (rowL 7 8 1)), (5, .agg (rowL 8 16 b)), (6, .agg (rowL 9 8 c))] g = g (.agg (rowsL a b c)) := K.bldAK_of (fun f => by kernel_rfl)
theorem w22 (n : Nat) (a b c : Int) (h : H) : ∃ h', K.run tb ty (n + 1) (.fn 22) [.agg [.int .i64 a, .int .i64 b, .int .i64 c]] h = .ok (.agg (rowsL a b c)) h' ∧ Grows h h' := by
  have hz : K.zN ctx 63 = 21 := by kernel_rfl
  obtain ⟨h', s1, s2, s3, s4⟩ := alloc_store (h := (newCells [.int .i64 a, .int .i64 b, .int .i64 c] h).2) (n := 21) (t := K.zT ctx 63) (l := rowsL a b c) rfl rfl
  have H0 : Holds ((newCells [.int .i64 a, .int .i64 b, .int .i64 c] h).2.new (.cells 21 (K.zT ctx 63))).2 (newCells [.int .i64 a, .int .i64 b, .int .i64 c] h).1 [.int .i64 a, .int .i64 b, .int .i64 c] := (Holds.newCells _ _).new (Nat.lt_succ_self _)
  refine ⟨h', ?_, (Grows.newCells _ _).trans s4⟩
  rw [u22]
  unfold r22
  simp only [K.uncons_cons, K.unnil_nil, K.boxK_agg, K.allocK_eq, hz, b62, K.fldK_ptr, Nat.zero_add]
  simp only [K.ldK_holds H0, List.length_cons, List.length_nil, Nat.reduceAdd, Nat.reduceLT, List.getD_cons_zero, List.getD_cons_succ, b62]
  refine (b63 a b c _).trans ?_
  refine (K.stsK_of rfl s1).trans ?_
  refine (K.loads_of (s3.loads (off := 0) (n := 21) (Nat.le_refl 21))).trans ?_
  rfl
noncomputable def F13 (j12 : List AV → List Nat → H → K.KR) : (List AV → List Nat → H → K.KR) → List AV → List Nat → H → K.KR := fun s22 l19 m20 h21 => K.uncons l19 fun t23 l24 => K.uncons l24 fun t25 l26 => K.uncons l26 fun t27 l28 => K.unnil l28 (
K.ltK (K.binV ctx .lss 3 true t27 (.int .i64 (.ofNat 7))) t27 (.int .i64 (.ofNat 7)) fun t29 =>
K.iteV t29 (
K.idxK ctx 62 3 7 t25 t27 fun t30 =>
K.allocK (K.zN ctx 62) (K.zT ctx 62) h21 fun t31 h32 =>
K.stsK 3 t31 t30 h32 fun h33 =>
K.fldK 1 t31 fun t34 =>
K.ldK ctx 3 t34 h33 fun t35 =>
K.fldK 2 t31 fun t36 =>
K.ldK ctx 3 t36 h33 fun t37 =>
K.mulK (K.binV ctx .mul 3 false t35 t37) t35 t37 fun t38 =>
K.addK (K.binV ctx .add 3 false t23 t38) t23 t38 fun t39 =>
K.addK (K.binV ctx .add 3 true t27 (.int .i64 (.ofNat 1))) t27 (.int .i64 (.ofNat 1)) fun t40 =>
s22 [t39, t25, t40] m20 h33) (
j12 [t23] m20 h21))
theorem it13 (jj s : List AV → List Nat → H → K.KR) (j : Nat) (a b c kd sz mn z : Int) (m : List Nat) (h : H) (hj : ltI (.ofNat j) 7 = true)
    (hrow : ∀ g : AV → K.KR, K.idxK ctx 62 3 7 (.agg (rowsL a b c)) (.int .i64 (.ofNat j)) g = g (.agg (rowL kd sz mn))) (hj1 : addI .i64 (.ofNat j) (.ofNat 1) = .ofNat (j + 1)) :
    ∃ h', F13 jj s [.int .i64 z, .agg (rowsL a b c), .int .i64 (.ofNat j)] m h = s [.int .i64 (addI .i64 z (mulI .i64 sz mn)), .agg (rowsL a b c), .int .i64 (.ofNat (j + 1))] m h' ∧ Grows h h' := by
  have hz : K.zN ctx 62 = 3 := by kernel_rfl
  obtain ⟨h', s1, s2, s3, s4⟩ := alloc_store (h := h) (n := 3) (t := K.zT ctx 62) (l := rowL kd sz mn) rfl rfl
  refine ⟨h', ?_, s4⟩
  have e7 : (Int.ofNat 7) = 7 := rfl
  unfold F13
  simp only [K.uncons_cons, K.unnil_nil, K.ltK_int, e7, hj, K.iteV_b, cond_true, hrow, K.allocK_eq, hz, Am.new_fst]
  refine (K.stsK_of rfl s1).trans ?_
  have l0 : (rowL kd sz mn).length = 3 := rfl
  simp only [K.fldK_ptr, Nat.zero_add, Nat.add_zero, K.ldK_holds s3, l0, Nat.reduceLT, rowL, List.length_cons, List.length_nil, Nat.reduceAdd, List.getD_cons_zero, List.getD_cons_succ, K.mulK_int, K.addK_int, hj1]
theorem w13 (n : Nat) (a b c : Int) (h : H) (hm : mayB a b c = true) : ∃ z h', K.run tb ty (n + 3) (.fn 13) [.agg [.int .i64 a, .int .i64 b, .int .i64 c]] h = .ok (.int .i64 z) h' ∧ Grows h h' := by
  obtain ⟨h2, r2, g2⟩ := w22 (n + 1) a b c (newCells [.int .i64 a, .int .i64 b, .int .i64 c] (newCells [.int .i64 a, .int .i64 b, .int .i64 c] h).2).2
  have H0 : Holds (newCells [.int .i64 a, .int .i64 b, .int .i64 c] (newCells [.int .i64 a, .int .i64 b, .int .i64 c] h).2).2 (newCells [.int .i64 a, .int .i64 b, .int .i64 c] h).1 [.int .i64 a, .int .i64 b, .int .i64 c] := (Holds.newCells _ _).new (Nat.lt_succ_self _)
  let J : List AV → List Nat → H → K.KR := fun (l9 : List AV) (m10 : List Nat) (h11 : H) => K.uncons l9 fun t13 l14 => K.unnil l14 (K.unmarkK m10 h11 fun h15 => .ok t13 h15)
  obtain ⟨h3, e3, g3⟩ := it13 J (K.loopV 999999 (F13 J)) 0 a b c 1 8 1 0 [] h2 rfl (fun g => by kernel_rfl) rfl
  obtain ⟨h4, e4, g4⟩ := it13 J (K.loopV 999998 (F13 J)) 1 a b c 2 64 4 (addI .i64 0 (mulI .i64 8 1)) [] h3 rfl (fun g => by kernel_rfl) rfl
  obtain ⟨h5, e5, g5⟩ := it13 J (K.loopV 999997 (F13 J)) 2 a b c 5 208 a (addI .i64 (addI .i64 0 (mulI .i64 8 1)) (mulI .i64 64 4)) [] h4 rfl (fun g => by kernel_rfl) rfl
  obtain ⟨h6, e6, g6⟩ := it13 J (K.loopV 999996 (F13 J)) 3 a b c 6 8 1 (addI .i64 (addI .i64 (addI .i64 0 (mulI .i64 8 1)) (mulI .i64 64 4)) (mulI .i64 208 a)) [] h5 rfl (fun g => by kernel_rfl) rfl
  obtain ⟨h7, e7, g7⟩ := it13 J (K.loopV 999995 (F13 J)) 4 a b c 7 8 1 (addI .i64 (addI .i64 (addI .i64 (addI .i64 0 (mulI .i64 8 1)) (mulI .i64 64 4)) (mulI .i64 208 a)) (mulI .i64 8 1)) [] h6 rfl (fun g => by kernel_rfl) rfl
  obtain ⟨h8, e8, g8⟩ := it13 J (K.loopV 999994 (F13 J)) 5 a b c 8 16 b (addI .i64 (addI .i64 (addI .i64 (addI .i64 (addI .i64 0 (mulI .i64 8 1)) (mulI .i64 64 4)) (mulI .i64 208 a)) (mulI .i64 8 1)) (mulI .i64 8 1)) [] h7 rfl (fun g => by kernel_rfl) rfl
  obtain ⟨h9, e9, g9⟩ := it13 J (K.loopV 999993 (F13 J)) 6 a b c 9 8 c (addI .i64 (addI .i64 (addI .i64 (addI .i64 (addI .i64 (addI .i64 0 (mulI .i64 8 1)) (mulI .i64 64 4)) (mulI .i64 208 a)) (mulI .i64 8 1)) (mulI .i64 8 1)) (mulI .i64 16 b)) [] h8 rfl (fun g => by kernel_rfl) rfl
  refine ⟨addI .i64 (addI .i64 (addI .i64 (addI .i64 (addI .i64 (addI .i64 (addI .i64 0 (mulI .i64 8 1)) (mulI .i64 64 4)) (mulI .i64 208 a)) (mulI .i64 8 1)) (mulI .i64 8 1)) (mulI .i64 16 b)) (mulI .i64 8 c), h9, ?_, (Grows.newCells _ _).trans ((Grows.newCells _ _).trans (g2.trans (g3.trans (g4.trans (g5.trans (g6.trans (g7.trans (g8.trans g9))))))))⟩
  rw [u13]
  unfold r13
  simp only [K.uncons_cons, K.unnil_nil, K.boxK_agg, K.letK_eq, K.ldsK_new, List.length_cons, List.length_nil, Nat.reduceAdd, Nat.reduceLeDiff, List.drop_zero, List.take_succ_cons, List.take_zero, c12, hm, K.notK_b, Bool.not_true, K.iteV_b, cond_false, K.ldsK_holds H0, Nat.zero_add, K.callFK_of r2]
  refine (K.loopV_succ 999999 (F13 J) [.int .i64 0, .agg (rowsL a b c), .int .i64 (.ofNat 0)] [] h2).trans ?_
  refine e3.trans ?_
  refine (K.loopV_succ 999998 (F13 J) _ [] h3).trans ?_
  refine e4.trans ?_
  refine (K.loopV_succ 999997 (F13 J) _ [] h4).trans ?_
  refine e5.trans ?_
  refine (K.loopV_succ 999996 (F13 J) _ [] h5).trans ?_
  refine e6.trans ?_
  refine (K.loopV_succ 999995 (F13 J) _ [] h6).trans ?_
  refine e7.trans ?_
  refine (K.loopV_succ 999994 (F13 J) _ [] h7).trans ?_
  refine e8.trans ?_
  refine (K.loopV_succ 999993 (F13 J) _ [] h8).trans ?_
  refine e9.trans ?_
  refine (K.loopV_succ 999992 (F13 J) _ [] h9).trans ?_
  have e7 : ltI (Int.ofNat (6 + 1)) (Int.ofNat 7) = false := rfl
  unfold F13
  simp only [K.uncons_cons, K.unnil_nil, K.ltK_int, e7, K.iteV_b, cond_false, J, K.unmarkK_nil]
end YtbigljebnajniaaGreatDoorCnM
