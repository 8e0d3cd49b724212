/- inode.find of no view, whatever the geometry and the number: the call that is made ahead (layout.InodeAt) comes to an end; then ErrNil. -/
import Derived.Test.YtpfgllikhklnoaaGreatDoorNmOk
import Derived.Test.YtpfgllikhklnoaaGreatDoorA4
namespace YtpfgllikhklnoaaGreatDoorNmM
open Go Am
set_option maxRecDepth 100000
theorem u117 (n : Nat) (args : List AV) (h : H) : K.run tb ty (n + 1) (.fn 117) args h = r117 (K.run tb ty n) args h := by kernel_rfl
theorem u77 (n : Nat) (args : List AV) (h : H) : K.run tb ty (n + 1) (.fn 77) args h = r77 (K.run tb ty n) args h := by kernel_rfl
theorem u118 (n : Nat) (args : List AV) (h : H) : K.run tb ty (n + 1) (.fn 118) args h = r118 (K.run tb ty n) args h := by kernel_rfl
theorem u99 (n : Nat) (args : List AV) (h : H) : K.run tb ty (n + 1) (.fn 99) args h = r99 (K.run tb ty n) args h := by kernel_rfl
theorem u44 (n : Nat) (args : List AV) (h : H) : K.run tb ty (n + 1) (.fn 44) args h = r44 (K.run tb ty n) args h := by kernel_rfl
theorem u84 (n : Nat) (args : List AV) (h : H) : K.run tb ty (n + 1) (.fn 84) args h = r84 (K.run tb ty n) args h := by kernel_rfl
theorem w117 (n : Nat) (a b c : Int) (h : H) : K.run tb ty (n + 1) (.fn 117) [.int .i64 a, .int .i64 b, .int .i64 c] h = .ok (.bool (leI b a && leI a c)) h := by
  rw [u117]
  unfold r117
  simp only [K.uncons_cons, K.unnil_nil, K.geK_int]
  cases leI b a <;> simp only [K.letK_eq, K.guK_t, cond_true, cond_false, K.pickK_b, K.unmarkK_nil, K.leK_int, Bool.true_and, Bool.false_and]
theorem c117 (n : Nat) (a b c : Int) (h : H) (q : AV → H → K.KR) : K.callFK (K.run tb ty (n + 1)) 117 [.int .i64 a, .int .i64 b, .int .i64 c] h q = q (.bool (leI b a && leI a c)) h := K.callFK_of (w117 n a b c h)
theorem w77 (n : Nat) (a b c : Int) (h : H) : K.run tb ty (n + 2) (.fn 77) [.agg [.int .i64 a, .int .i64 b, .int .i64 c]] h = .ok (.bool (leI 1 a && leI a 4 && (leI 2 b && leI b 64) && (leI 2 c && leI c 512))) (newCells [.int .i64 a, .int .i64 b, .int .i64 c] h).2 := by
  rw [u77]
  unfold r77
  have e1 : (Int.ofNat 1) = 1 := rfl
  have e2 : (Int.ofNat 2) = 2 := rfl
  have e3 : (Int.ofNat 64) = 64 := rfl
  have e4 : (Int.ofNat 4) = 4 := rfl
  have e5 : (Int.ofNat 512) = 512 := rfl
  simp only [K.uncons_cons, K.unnil_nil, K.boxK_agg, K.fldK_ptr, Nat.zero_add, Nat.add_zero, K.ldK_new, List.length_cons, List.length_nil, Nat.reduceAdd, Nat.reduceLT, List.getD_cons_zero, List.getD_cons_succ, c117]
  cases hb : (leI 1 a && leI a 4) <;> cases hc : (leI 2 b && leI b 64) <;> simp only [e1, e2, e3, e4, e5, hb, hc, K.letK_eq, K.guK_t, cond_true, cond_false, K.pickK_b, K.unmarkK_nil, K.fldK_ptr, Nat.zero_add, K.ldK_new, List.length_cons, List.length_nil, Nat.reduceAdd, Nat.reduceLT, List.getD_cons_zero, List.getD_cons_succ, c117, Bool.true_and, Bool.false_and]
theorem b159 (x y z : Int) (g : AV → K.KR) : K.bldSK ctx 159 [(0, .int .u8 x), (1, .int .i64 y), (2, .int .i64 z)] g = g (.agg [.int .u8 x, .int .i64 y, .int .i64 z]) := K.bldSK_of (fun f => by kernel_rfl)
def rowL (x y z : Int) : List AV := [.int .u8 x, .int .i64 y, .int .i64 z]
def rowsL (a b c : Int) : List AV := rowL 1 8 1 ++ rowL 2 64 4 ++ rowL 5 208 a ++ rowL 6 8 1 ++ rowL 7 8 1 ++ rowL 8 16 b ++ rowL 9 8 c
theorem b160 (a b c : Int) (g : AV → K.KR) : K.bldAK ctx 160 3 [(0, .agg (rowL 1 8 1)), (1, .agg (rowL 2 64 4)), (2, .agg (rowL 5 208 a)), (3, .agg (rowL 6 8 1)), (4, .agg (rowL 7 8 1)), (5, .agg (rowL 8 16 b)), (6, .agg (rowL 9 8 c))] g = g (.agg (rowsL a b c)) := K.bldAK_of (fun f => by kernel_rfl)
theorem w118 (n : Nat) (a b c : Int) (h : H) : ∃ h', K.run tb ty (n + 1) (.fn 118) [.agg [.int .i64 a, .int .i64 b, .int .i64 c]] h = .ok (.agg (rowsL a b c)) h' ∧ Grows h h' := by
  have hz : K.zN ctx 160 = 21 := by kernel_rfl
  obtain ⟨h', s1, s2, s3, s4⟩ := alloc_store (h := (newCells [.int .i64 a, .int .i64 b, .int .i64 c] h).2) (n := 21) (t := K.zT ctx 160) (l := rowsL a b c) rfl rfl
  have H0 : Holds ((newCells [.int .i64 a, .int .i64 b, .int .i64 c] h).2.new (.cells 21 (K.zT ctx 160))).2 (newCells [.int .i64 a, .int .i64 b, .int .i64 c] h).1 [.int .i64 a, .int .i64 b, .int .i64 c] := (Holds.newCells _ _).new (Nat.lt_succ_self _)
  refine ⟨h', ?_, (Grows.newCells _ _).trans s4⟩
  rw [u118]
  unfold r118
  simp only [K.uncons_cons, K.unnil_nil, K.boxK_agg, K.allocK_eq, hz, b159, K.fldK_ptr, Nat.zero_add]
  simp only [K.ldK_holds H0, List.length_cons, List.length_nil, Nat.reduceAdd, Nat.reduceLT, List.getD_cons_zero, List.getD_cons_succ, b159]
  refine (b160 a b c _).trans ?_
  refine (K.stsK_of rfl s1).trans ?_
  refine (K.loads_of (s3.loads (off := 0) (n := 21) (Nat.le_refl 21))).trans ?_
  rfl
noncomputable def F99 (run : K.KRun) : (List AV → List Nat → H → K.KR) → List AV → List Nat → H → K.KR := fun s19 l16 m17 h18 => K.uncons l16 fun t20 l21 => K.uncons l21 fun t22 l23 => K.uncons l23 fun t24 l25 => K.uncons l25 fun t26 l27 => K.uncons l27 fun t28 l29 => K.uncons l29 fun t30 l31 => K.unnil l31 (
K.ltK (K.binV ctx .lss 3 true t30 (.int .i64 (.ofNat 7))) t30 (.int .i64 (.ofNat 7)) fun t32 =>
K.iteV t32 (
K.idxK ctx 159 3 7 t28 t30 fun t33 =>
K.allocK (K.zN ctx 159) (K.zT ctx 159) h18 fun t34 h35 =>
K.stsK 3 t34 t33 h35 fun h36 =>
K.fldK 0 t34 fun t37 =>
K.ldK ctx 141 t37 h36 fun t38 =>
K.neK (K.binV ctx .neq 141 false t38 t20) t38 t20 fun t39 =>
K.iteV t39 (
K.fldK 1 t34 fun t40 =>
K.ldK ctx 3 t40 h36 fun t41 =>
K.fldK 2 t34 fun t42 =>
K.ldK ctx 3 t42 h36 fun t43 =>
K.mulK (K.binV ctx .mul 3 false t41 t43) t41 t43 fun t44 =>
K.addK (K.binV ctx .add 3 false t26 t44) t26 t44 fun t45 =>
K.addK (K.binV ctx .add 3 true t30 (.int .i64 (.ofNat 1))) t30 (.int .i64 (.ofNat 1)) fun t46 =>
s19 [t20, t22, t24, t45, t28, t46] m17 h36) (
K.ldsK ctx 23 3 t24 h36 fun t47 =>
K.callFK run 77 [t47] h36 fun t48 h49 =>
K.letK (fun (t50 : AV) (h51 : H) => K.letK (fun (t53 : AV) (h54 : H) => K.letK (fun (t56 : AV) (h57 : H) => K.letK (fun (t59 : AV) (h60 : H) => K.letK (fun (t62 : AV) (h63 : H) => K.pickK t48 t62 (.bool false) fun t65 =>
K.iteV t65 (
K.fldK 1 t34 fun t66 =>
K.ldK ctx 3 t66 h63 fun t67 =>
K.mulK (K.binV ctx .mul 3 false t67 t22) t67 t22 fun t68 =>
K.addK (K.binV ctx .add 3 false t26 t68) t26 t68 fun t69 =>
K.unmarkK m17 h63 fun h70 => .ok t69 h70) (
(fun (l8 : List AV) (m9 : List Nat) (h10 : H) => K.unnil l8 (K.unmarkK m9 h10 fun h12 => K.KR.ok (.int .i64 (.negSucc 0)) h12)) [] m17 h63)) fun j64 =>
K.guK true t48 (K.callFK run 117 [t50, (.int .i64 (.ofNat 0)), t59] h60 fun t71 h72 =>
j64 t71 h72) (j64 (.tup []) h60)) fun j61 =>
K.guK true t48 (K.subK (K.binV ctx .sub 3 true t56 (.int .i64 (.ofNat 1))) t56 (.int .i64 (.ofNat 1)) fun t73 =>
j61 t73 h57) (j61 (.tup []) h57)) fun j58 =>
K.guK true t48 (K.ldK ctx 3 t53 h54 fun t74 =>
j58 t74 h54) (j58 (.tup []) h54)) fun j55 =>
K.guK true t48 (K.fldK 2 t34 fun t75 =>
j55 t75 h51) (j55 (.tup []) h51)) fun j52 =>
K.guK true t48 (j52 t22 h49) (j52 (.tup []) h49))) (
(fun (l8 : List AV) (m9 : List Nat) (h10 : H) => K.unnil l8 (K.unmarkK m9 h10 fun h12 => K.KR.ok (.int .i64 (.negSucc 0)) h12)) [] m17 h18))
theorem it99 (run : K.KRun) (s : List AV → List Nat → H → K.KR) (i : AV) (p j : Nat) (a b c kd sz mn z : Int) (m : List Nat) (h : H) (hj : ltI (.ofNat j) 7 = true) (hk : eqI kd 8 = false)
    (hrow : ∀ g : AV → K.KR, K.idxK ctx 159 3 7 (.agg (rowsL a b c)) (.int .i64 (.ofNat j)) g = g (.agg (rowL kd sz mn))) (hj1 : addI .i64 (.ofNat j) (.ofNat 1) = .ofNat (j + 1)) :
    ∃ h', F99 run s [.int .u8 8, i, .ptr p 0, .int .i64 z, .agg (rowsL a b c), .int .i64 (.ofNat j)] m h = s [.int .u8 8, i, .ptr p 0, .int .i64 (addI .i64 z (mulI .i64 sz mn)), .agg (rowsL a b c), .int .i64 (.ofNat (j + 1))] m h' ∧ Grows h h' := by
  have hz : K.zN ctx 159 = 3 := by kernel_rfl
  obtain ⟨h', s1, s2, s3, s4⟩ := alloc_store (h := h) (n := 3) (t := K.zT ctx 159) (l := rowL kd sz mn) rfl rfl
  refine ⟨h', ?_, s4⟩
  have e7 : (Int.ofNat 7) = 7 := rfl
  unfold F99
  simp only [K.uncons_cons, K.unnil_nil, K.ltK_int, e7, hj, K.iteV_b, cond_true, hrow, K.allocK_eq, hz, Am.new_fst]
  refine (K.stsK_of rfl s1).trans ?_
  have l0 : (rowL kd sz mn).length = 3 := rfl
  simp only [K.fldK_ptr, Nat.zero_add, Nat.add_zero, K.ldK_holds s3, l0, Nat.reduceLT, rowL, List.length_cons, List.length_nil, Nat.reduceAdd, List.getD_cons_zero, List.getD_cons_succ, K.neK_int, hk, Bool.not_false, K.iteV_b, cond_true, K.mulK_int, K.addK_int, hj1]
theorem c77 (n : Nat) (a b c : Int) (h : H) (q : AV → H → K.KR) : K.callFK (K.run tb ty (n + 2)) 77 [.agg [.int .i64 a, .int .i64 b, .int .i64 c]] h q = q (.bool (leI 1 a && leI a 4 && (leI 2 b && leI b 64) && (leI 2 c && leI c 512))) (newCells [.int .i64 a, .int .i64 b, .int .i64 c] h).2 := K.callFK_of (w77 n a b c h)
theorem fin99 (n : Nat) (s : List AV → List Nat → H → K.KR) (p : Nat) (a b c z i : Int) (h : H) (hp : Holds h p [.int .i64 a, .int .i64 b, .int .i64 c]) (hlt : p < h.next) :
    ∃ z' h', F99 (K.run tb ty (n + 2)) s [.int .u8 8, .int .i64 i, .ptr p 0, .int .i64 z, .agg (rowsL a b c), .int .i64 (.ofNat 5)] [] h = .ok (.int .i64 z') h' := by
  have hz : K.zN ctx 159 = 3 := by kernel_rfl
  obtain ⟨h', s1, s2, s3, s4⟩ := alloc_store (h := h) (n := 3) (t := K.zT ctx 159) (l := rowL 8 16 b) rfl rfl
  have hp' := hp.ext s4 hlt
  have hrow : ∀ g : AV → K.KR, K.idxK ctx 159 3 7 (.agg (rowsL a b c)) (.int .i64 (.ofNat 5)) g = g (.agg (rowL 8 16 b)) := fun g => by kernel_rfl
  have hj : ltI (.ofNat 5) 7 = true := rfl
  have e7 : (Int.ofNat 7) = 7 := rfl
  have e1 : (Int.ofNat 1) = 1 := rfl
  have e0 : (Int.ofNat 0) = 0 := rfl
  have e8 : eqI 8 8 = true := rfl
  have s5 := s3.ext (Grows.newCells [.int .i64 a, .int .i64 b, .int .i64 c] h') (by omega)
  unfold F99
  simp only [K.uncons_cons, K.unnil_nil, K.ltK_int, e7, hj, K.iteV_b, cond_true, hrow, K.allocK_eq, hz, Am.new_fst]
  rw [K.stsK_of (n := 3) rfl s1]
  simp only [K.fldK_ptr, Nat.zero_add, Nat.add_zero, K.ldK_holds s3, Nat.reduceLT, rowL, List.length_cons, List.length_nil, Nat.reduceAdd, List.getD_cons_zero, List.getD_cons_succ, K.neK_int, e8, Bool.not_true, K.iteV_b, cond_false, K.ldsK_holds hp', List.drop_zero, List.take_succ_cons, List.take_zero, Nat.reduceLeDiff, c77]
  generalize (leI 1 a && leI a 4 && (leI 2 b && leI b 64) && (leI 2 c && leI c 512)) = r
  cases r with
  | false =>
    simp only [K.letK_eq, K.guK_t, cond_true, cond_false, K.pickK_b, K.iteV_b, K.unnil_nil, K.unmarkK_nil]
    exact ⟨_, _, rfl⟩
  | true =>
    rw [show (rowL 8 16 b) = [.int .u8 8, .int .i64 16, .int .i64 b] from rfl] at s5
    simp only [K.letK_eq, K.guK_t, cond_true, K.pickK_b, K.iteV_b, K.unnil_nil, K.unmarkK_nil, K.fldK_ptr, Nat.zero_add, K.ldK_holds s5, Nat.reduceLT, List.length_cons, List.length_nil, Nat.reduceAdd, List.getD_cons_zero, List.getD_cons_succ, K.subK_int, e0, e1, c117]
    generalize (leI 0 i && leI i (subI .i64 b 1)) = r
    cases r with
    | false =>
      simp only [cond_false]
      exact ⟨_, _, rfl⟩
    | true =>
      simp only [cond_true, K.ldK_holds s5, Nat.reduceLT, List.length_cons, List.length_nil, Nat.reduceAdd, List.getD_cons_zero, List.getD_cons_succ, K.mulK_int, K.addK_int]
      exact ⟨_, _, rfl⟩
theorem w99 (n : Nat) (a b c i : Int) (h : H) : ∃ z h', K.run tb ty (n + 3) (.fn 99) [.agg [.int .i64 a, .int .i64 b, .int .i64 c], .int .u8 8, .int .i64 i] h = .ok (.int .i64 z) h' := by
  obtain ⟨h2, r2, g2⟩ := w118 (n + 1) a b c (newCells [.int .i64 a, .int .i64 b, .int .i64 c] h).2
  have hlt : h.next < (newCells [.int .i64 a, .int .i64 b, .int .i64 c] h).2.next := Nat.lt_succ_self _
  have Hp : Holds h2 h.next [.int .i64 a, .int .i64 b, .int .i64 c] := (Holds.newCells _ _).ext g2 hlt
  have row : ∀ (j : Nat) (kd sz mn : Int), (∀ g : AV → K.KR, K.idxK ctx 159 3 7 (.agg (rowsL a b c)) (.int .i64 (.ofNat j)) g = g (.agg (rowL kd sz mn))) → ∀ g : AV → K.KR, K.idxK ctx 159 3 7 (.agg (rowsL a b c)) (.int .i64 (.ofNat j)) g = g (.agg (rowL kd sz mn)) := fun _ _ _ _ h => h
  obtain ⟨h3, e3, g3⟩ := it99 (K.run tb ty (n + 2)) (K.loopV 999999 (F99 (K.run tb ty (n + 2)))) (.int .i64 i) h.next 0 a b c 1 8 1 0 [] h2 rfl rfl (fun g => by kernel_rfl) rfl
  obtain ⟨h4, e4, g4⟩ := it99 (K.run tb ty (n + 2)) (K.loopV 999998 (F99 (K.run tb ty (n + 2)))) (.int .i64 i) h.next 1 a b c 2 64 4 (addI .i64 0 (mulI .i64 8 1)) [] h3 rfl rfl (fun g => by kernel_rfl) rfl
  obtain ⟨h5, e5, g5⟩ := it99 (K.run tb ty (n + 2)) (K.loopV 999997 (F99 (K.run tb ty (n + 2)))) (.int .i64 i) h.next 2 a b c 5 208 a (addI .i64 (addI .i64 0 (mulI .i64 8 1)) (mulI .i64 64 4)) [] h4 rfl rfl (fun g => by kernel_rfl) rfl
  obtain ⟨h6, e6, g6⟩ := it99 (K.run tb ty (n + 2)) (K.loopV 999996 (F99 (K.run tb ty (n + 2)))) (.int .i64 i) h.next 3 a b c 6 8 1 (addI .i64 (addI .i64 (addI .i64 0 (mulI .i64 8 1)) (mulI .i64 64 4)) (mulI .i64 208 a)) [] h5 rfl rfl (fun g => by kernel_rfl) rfl
  obtain ⟨h7, e7, g7⟩ := it99 (K.run tb ty (n + 2)) (K.loopV 999995 (F99 (K.run tb ty (n + 2)))) (.int .i64 i) h.next 4 a b c 7 8 1 (addI .i64 (addI .i64 (addI .i64 (addI .i64 0 (mulI .i64 8 1)) (mulI .i64 64 4)) (mulI .i64 208 a)) (mulI .i64 8 1)) [] h6 rfl rfl (fun g => by kernel_rfl) rfl
  have G := (((g3.trans g4).trans g5).trans g6).trans g7
  obtain ⟨z, h8, e8⟩ := fin99 n (K.loopV 999994 (F99 (K.run tb ty (n + 2)))) h.next a b c (addI .i64 (addI .i64 (addI .i64 (addI .i64 (addI .i64 0 (mulI .i64 8 1)) (mulI .i64 64 4)) (mulI .i64 208 a)) (mulI .i64 8 1)) (mulI .i64 8 1)) i h7 (Hp.ext G (Nat.lt_of_lt_of_le hlt g2.le)) (Nat.lt_of_lt_of_le hlt (Nat.le_trans g2.le G.le))
  refine ⟨z, h8, ?_⟩
  rw [u99]
  unfold r99
  simp only [K.uncons_cons, K.unnil_nil, K.boxK_agg, K.letK_eq, K.ldsK_new, List.length_cons, List.length_nil, Nat.reduceAdd, Nat.reduceLeDiff, List.drop_zero, List.take_succ_cons, List.take_zero, K.callFK_of r2]
  refine (K.loopV_succ 999999 (F99 (K.run tb ty (n + 2))) [.int .u8 8, .int .i64 i, .ptr h.next 0, .int .i64 0, .agg (rowsL a b c), .int .i64 (.ofNat 0)] [] h2).trans ?_
  refine e3.trans ?_
  refine (K.loopV_succ 999998 (F99 (K.run tb ty (n + 2))) _ [] h3).trans ?_
  refine e4.trans ?_
  refine (K.loopV_succ 999997 (F99 (K.run tb ty (n + 2))) _ [] h4).trans ?_
  refine e5.trans ?_
  refine (K.loopV_succ 999996 (F99 (K.run tb ty (n + 2))) _ [] h5).trans ?_
  refine e6.trans ?_
  refine (K.loopV_succ 999995 (F99 (K.run tb ty (n + 2))) _ [] h6).trans ?_
  refine e7.trans ?_
  refine (K.loopV_succ 999994 (F99 (K.run tb ty (n + 2))) _ [] h7).trans ?_
  exact e8
theorem w44 (n : Nat) (a b c i : Int) (h : H) : ∃ z h', K.run tb ty (n + 4) (.fn 44) [.agg [.int .i64 a, .int .i64 b, .int .i64 c], .int .i64 i] h = .ok (.int .i64 z) h' := by
  obtain ⟨z, h2, r2⟩ := w99 n a b c i (newCells [.int .i64 a, .int .i64 b, .int .i64 c] h).2
  refine ⟨z, h2, ?_⟩
  rw [u44]
  unfold r44
  have e8 : (Int.ofNat 8) = 8 := rfl
  simp only [K.uncons_cons, K.unnil_nil, K.boxK_agg, K.ldsK_new, List.length_cons, List.length_nil, Nat.reduceAdd, Nat.reduceLeDiff, List.drop_zero, List.take_succ_cons, List.take_zero, e8, K.callFK_of r2, K.unmarkK_nil]
theorem w84 (n : Nat) (a b c i : Int) (h : H) : ∃ h', K.run tb ty (n + 5) (.fn 84) [.nilPtr, .agg [.int .i64 a, .int .i64 b, .int .i64 c], .int .i64 i] h = .ok (.tup [.int .i64 (.ofNat 0), .int .i64 (.ofNat 2)]) h' := by
  obtain ⟨z, h2, r2⟩ := w44 n a b c i (newCells [.int .i64 a, .int .i64 b, .int .i64 c] h).2
  refine ⟨h2, ?_⟩
  rw [u84]
  unfold r84
  simp only [K.uncons_cons, K.unnil_nil, K.boxK_agg, K.ldsK_new, List.length_cons, List.length_nil, Nat.reduceAdd, Nat.reduceLeDiff, List.drop_zero, List.take_succ_cons, List.take_zero, K.callFK_of r2]
  rfl
/-- what is known of inode.find: of no view it gives ErrNil -/
def findS : Sum := fun args h => match args with
  | [.nilPtr, .agg [.int .i64 _, .int .i64 _, .int .i64 _], .int .i64 _] => some (.tup [.int .i64 (.ofNat 0), .int .i64 (.ofNat 2)], h)
  | _ => none
theorem sokFind {P : Program} {G : Gd} (hc : COk ctx P) (hX : ExtOk ctx P) (hS : SumOk ctx P G) (hle : K.KLe (K.run tb ty 5) (runA ctx 5)) (hx : ctx.ext.get 84 = none) (m : Nat) (g : K.KRun → List AV → H → K.KR) : SOk ctx P G ⟨84, m, g, findS⟩ := by
  intro args h v h' hq
  replace hq : findS args h = some (v, h') := hq
  unfold findS at hq
  split at hq
  · rename_i a b c i
    cases hq
    refine ⟨Nat.le_refl _, fun ρ w vs q1 q2 q3 q4 => ?_⟩
    obtain ⟨h0, e⟩ := w84 0 a b c i ⟨0, .e⟩
    exact known_run hc hX hS (hle _ _ _ _ _ e) rfl rfl hx ctx h ρ w vs q1 q2 q3
  · cases hq
/-! Unlink, Rmdir of no view -/
theorem isRes_ok {r : K.KR} {v : AV} (h : isRes r v = true) : ∃ h', r = .ok v h' := by
  cases r with
  | bad => cases h
  | ok u h' => exact ⟨h', by rw [same_eq _ _ h]⟩
theorem b80 (a b c : Int) (u : Nat) (l : List AV) (g : AV → K.KR) : K.bldSK ctx 80 [(0, .nilPtr), (1, .agg [.int .i64 a, .int .i64 b, .int .i64 c]), (2, .func (.func u) [] l)] g = g (.agg [.nilPtr, .int .i64 a, .int .i64 b, .int .i64 c, .func (.func u) [] l]) := K.bldSK_of (fun f => by kernel_rfl)
theorem w11 (a b c : Int) (s : List Nat) : ∃ h', K.run tb ty 50 (.fn 11) [.nilPtr, .agg [.int .i64 a, .int .i64 b, .int .i64 c], .str s] ⟨0, .e⟩ = .ok (.int .i64 (.ofNat 2)) h' := by
  have e1 : K.run tb ty 50 (.fn 11) [.nilPtr, .agg [.int .i64 a, .int .i64 b, .int .i64 c], .str s] ⟨0, .e⟩ = K.bldSK ctx 80 [(0, .nilPtr), (1, .agg [.int .i64 a, .int .i64 b, .int .i64 c]), (2, .func (.func 45) [] [])] (fun t9 => K.callFK (K.run tb ty 49) 46 [t9, .str s] (newCells [.int .i64 a, .int .i64 b, .int .i64 c] ⟨0, .e⟩).2 fun t10 h11 => .ok t10 h11) := by kernel_rfl
  obtain ⟨h', e2⟩ := isRes_ok (show isRes (K.run tb ty 49 (.fn 46) [.agg [.nilPtr, .int .i64 a, .int .i64 b, .int .i64 c, .func (.func 45) [] []], .str s] (newCells [.int .i64 a, .int .i64 b, .int .i64 c] ⟨0, .e⟩).2) (.int .i64 (.ofNat 2)) = true by kernel_rfl)
  exact ⟨h', by rw [e1, b80, K.callFK_of e2]⟩
theorem w12 (a b c : Int) (s : List Nat) : ∃ h', K.run tb ty 50 (.fn 12) [.nilPtr, .agg [.int .i64 a, .int .i64 b, .int .i64 c], .str s] ⟨0, .e⟩ = .ok (.int .i64 (.ofNat 2)) h' := by
  have e1 : K.run tb ty 50 (.fn 12) [.nilPtr, .agg [.int .i64 a, .int .i64 b, .int .i64 c], .str s] ⟨0, .e⟩ = K.bldSK ctx 80 [(0, .nilPtr), (1, .agg [.int .i64 a, .int .i64 b, .int .i64 c]), (2, .func (.func 47) [] [.ptr 0 0, .ptr 1 0])] (fun t9 => K.callFK (K.run tb ty 49) 46 [t9, .str s] (newCells [.int .i64 a, .int .i64 b, .int .i64 c] (newCells [.nilPtr] ⟨0, .e⟩).2).2 fun t10 h11 => .ok t10 h11) := by kernel_rfl
  obtain ⟨h', e2⟩ := isRes_ok (show isRes (K.run tb ty 49 (.fn 46) [.agg [.nilPtr, .int .i64 a, .int .i64 b, .int .i64 c, .func (.func 47) [] [.ptr 0 0, .ptr 1 0]], .str s] (newCells [.int .i64 a, .int .i64 b, .int .i64 c] (newCells [.nilPtr] ⟨0, .e⟩).2).2) (.int .i64 (.ofNat 2)) = true by kernel_rfl)
  exact ⟨h', by rw [e1, b80, K.callFK_of e2]⟩
def nilS : Sum := fun args h => match args with
  | [.nilPtr, .agg [.int .i64 _, .int .i64 _, .int .i64 _], .str _] => some (.int .i64 (.ofNat 2), h)
  | _ => none
theorem sokNil {P : Program} {G : Gd} {f : Nat} (hw : ∀ (a b c : Int) (s : List Nat), ∃ h', K.run tb ty 50 (.fn f) [.nilPtr, .agg [.int .i64 a, .int .i64 b, .int .i64 c], .str s] ⟨0, .e⟩ = .ok (.int .i64 (.ofNat 2)) h') (hc : COk ctx P) (hX : ExtOk ctx P) (hS : SumOk ctx P G) (hle : K.KLe (K.run tb ty 50) (runA ctx 50)) (hx : ctx.ext.get f = none) (m : Nat) (g : K.KRun → List AV → H → K.KR) : SOk ctx P G ⟨f, m, g, nilS⟩ := by
  intro args h v h' hq
  replace hq : nilS args h = some (v, h') := hq
  unfold nilS at hq
  split at hq
  · rename_i a b c s
    cases hq
    refine ⟨Nat.le_refl _, fun ρ w vs q1 q2 q3 q4 => ?_⟩
    obtain ⟨h0, e⟩ := hw a b c s
    exact known_run hc hX hS (hle _ _ _ _ _ e) rfl rfl hx ctx h ρ w vs q1 q2 q3
  · cases hq
theorem sok11' {P : Program} {G : Gd} (hc : COk ctx P) (hX : ExtOk ctx P) (hS : SumOk ctx P G) (_ : K.KLe (K.run tb ty 5) (runA ctx 5)) (hx : ctx.ext.get 11 = none) (m : Nat) (g : K.KRun → List AV → H → K.KR) : SOk ctx P G ⟨11, m, g, nilS⟩ := sokNil w11 hc hX hS (K.run_le nosum tbok tyok 50) hx m g
theorem sok12' {P : Program} {G : Gd} (hc : COk ctx P) (hX : ExtOk ctx P) (hS : SumOk ctx P G) (_ : K.KLe (K.run tb ty 5) (runA ctx 5)) (hx : ctx.ext.get 12 = none) (m : Nat) (g : K.KRun → List AV → H → K.KR) : SOk ctx P G ⟨12, m, g, nilS⟩ := sokNil w12 hc hX hS (K.run_le nosum tbok tyok 50) hx m g
end YtpfgllikhklnoaaGreatDoorNmM
