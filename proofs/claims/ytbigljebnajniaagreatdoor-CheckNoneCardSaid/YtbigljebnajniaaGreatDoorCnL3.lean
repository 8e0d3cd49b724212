import Derived.Test.YtbigljebnajniaaGreatDoorCnOf2
namespace YtbigljebnajniaaGreatDoorCnM
open Go Am
set_option maxRecDepth 100000
noncomputable def r3 : K.KRun → List AV → H → K.KR := fun run args h => K.uncons args fun t0 l1 => K.unnil l1 (
K.lenVK t0 fun t2 =>
K.gtK (K.binV ctx .gtr 3 true t2 (.int .i64 (.ofNat 8192))) t2 (.int .i64 (.ofNat 8192)) fun t3 =>
K.iteV t3 (
K.callFK run 4 [] h fun t4 h5 =>
K.unmarkK [] h5 fun h6 => .ok t4 h6) (
K.callFK run 5 [t0] h fun t7 h8 =>
K.extK t7 0 fun t9 =>
K.extK t7 1 fun t10 =>
K.allocK (K.zN ctx 25) (K.zT ctx 25) h8 fun t11 h12 =>
K.stsK 3 t11 t9 h12 fun h13 =>
K.iteV t10 (
K.callFK run 4 [] h13 fun t14 h15 =>
K.unmarkK [] h15 fun h16 => .ok t14 h16) (
K.callFK run 6 [t0] h13 fun t17 h18 =>
K.extK t17 0 fun t19 =>
K.extK t17 1 fun t20 =>
K.allocK (K.zN ctx 29) (K.zT ctx 29) h18 fun t21 h22 =>
K.stsK 3 t21 t19 h22 fun h23 =>
K.notK t20 fun t24 =>
K.letK (fun (t25 : AV) (h26 : H) => K.letK (fun (t28 : AV) (h29 : H) => K.letK (fun (t31 : AV) (h32 : H) => K.pickK t24 t31 (.bool false) fun t34 =>
K.letK (fun (t35 : AV) (h36 : H) => K.letK (fun (t38 : AV) (h39 : H) => K.letK (fun (t41 : AV) (h42 : H) => K.letK (fun (t44 : AV) (h45 : H) => K.pickK t34 t44 (.bool false) fun t47 =>
K.letK (fun (t48 : AV) (h49 : H) => K.pickK t47 t48 (.bool false) fun t51 =>
K.unmarkK [] h49 fun h52 => .ok t51 h52) fun j50 =>
K.guK true t47 (K.callFK run 4 [] h45 fun t53 h54 =>
j50 t53 h54) (j50 (.tup []) h45)) fun j46 =>
K.guK true t34 (K.eqK (K.binV ctx .eql 3 true t41 (.int .i64 (.ofNat 0))) t41 (.int .i64 (.ofNat 0)) fun t55 =>
j46 t55 h42) (j46 (.tup []) h42)) fun j43 =>
K.guK true t34 (K.lenVK t38 fun t56 =>
j43 t56 h39) (j43 (.tup []) h39)) fun j40 =>
K.guK true t34 (K.callFK run 7 [t35] h36 fun t57 h58 =>
j40 t57 h58) (j40 (.tup []) h36)) fun j37 =>
K.guK true t34 (j37 t0 h32) (j37 (.tup []) h32)) fun j33 =>
K.guK true t24 (K.eqK (K.binV ctx .eql 29 false t25 t28) t25 t28 fun t59 =>
j33 t59 h29) (j33 (.tup []) h29)) fun j30 =>
K.guK true t24 (K.bldSK ctx 29 [(0, (.int .i64 (.ofNat 1)))] fun t60 =>
j30 t60 h26) (j30 (.tup []) h26)) fun j27 =>
K.guK true t24 (K.ldsK ctx 29 3 t21 h23 fun t61 =>
j27 t61 h23) (j27 (.tup []) h23))))
theorem r3_eq : K.fnK ctx 3 1 = r3 := by kernel_rfl
def s4 : Sum := fun args h => match args with | [] => some (.bool true, h) | _ => none
noncomputable def seL3 (s5 s14 : Sum) : List SE := [⟨4, 0, K.fnK ctx 4 0, s4⟩, ⟨5, 1, r5, s5⟩, ⟨14, 1, r14, s14⟩]
noncomputable def tb3 (s5 s14 : Sum) : T K.FnC := tbOf tb (seL3 s5 s14)
theorem v3 (s5 s14 : Sum) (m : Nat) (args : List AV) (h : H) : K.run (tb3 s5 s14) ty (m + 1) (.fn 3) args h = r3 (K.run (tb3 s5 s14) ty m) args h := by
  rw [← r3_eq]
  kernel_rfl
theorem v6 (s5 s14 : Sum) (m : Nat) (args : List AV) (h : H) : K.run (tb3 s5 s14) ty (m + 1) (.fn 6) args h = r6 (K.run (tb3 s5 s14) ty m) args h := by kernel_rfl
theorem v7 (s5 s14 : Sum) (m : Nat) (args : List AV) (h : H) : K.run (tb3 s5 s14) ty (m + 1) (.fn 7) args h = r7 (K.run (tb3 s5 s14) ty m) args h := by kernel_rfl
theorem v4 (s5 s14 : Sum) (m : Nat) (h : H) : K.run (tb3 s5 s14) ty (m + 1) (.fn 4) [] h = .ok (.bool true) h := by kernel_rfl
theorem v5 {s5 s14 : Sum} (m : Nat) {args : List AV} {h h' : H} {v : AV} (e : s5 args h = some (v, h')) : K.run (tb3 s5 s14) ty (m + 1) (.fn 5) args h = .ok v h' := by
  have q : K.run (tb3 s5 s14) ty (m + 1) (.fn 5) args h = K.sumFK s5 r5 (K.run (tb3 s5 s14) ty m) args h := by kernel_rfl
  rw [q]
  unfold K.sumFK
  rw [e]
theorem v14 {s5 s14 : Sum} (m : Nat) {args : List AV} {h h' : H} {v : AV} (e : s14 args h = some (v, h')) : K.run (tb3 s5 s14) ty (m + 1) (.fn 14) args h = .ok v h' := by
  have q : K.run (tb3 s5 s14) ty (m + 1) (.fn 14) args h = K.sumFK s14 r14 (K.run (tb3 s5 s14) ty m) args h := by kernel_rfl
  rw [q]
  unfold K.sumFK
  rw [e]
def fl1 : List AV := [.int .i64 (.ofNat 1), .int .i64 (.ofNat 0), .int .i64 (.ofNat 0)]
theorem z29 : K.zN ctx 29 = 3 := by kernel_rfl
theorem z32 : K.zN ctx 32 = 1 := by kernel_rfl
theorem z43 : K.zN ctx 43 = 1 := by kernel_rfl
theorem w6 (s5 s14 : Sum) (m : Nat) (a : AV) (h : H) (hs : ∀ h', Grows h h' → s14 [a] h' = some (z14, h')) : ∃ h', K.run (tb3 s5 s14) ty (m + 2) (.fn 6) [a] h = .ok (.tup [.agg fl1, .bool false]) h' ∧ Grows h h' := by
  have g1 : Grows h (h.new (.cells 3 (K.zT ctx 29))).2 := Grows.new _ _
  obtain ⟨h2, s1, s2, s3, s4⟩ := alloc_store (h := (h.new (.cells 3 (K.zT ctx 29))).2) (n := 3) (t := K.zT ctx 29) (l := fl1) rfl rfl
  have ob : h2.obj h.next = some (.cells 3 (K.zT ctx 29)) := by rw [s4.obj _ (Nat.lt_succ_self _)]; exact new_obj_self _ _
  have hh : Holds h2 h.next [.int .i64 (.ofNat 0), .int .i64 (.ofNat 0), .int .i64 (.ofNat 0)] := ⟨_, ob, fun k hk => by
    have hk : k < 3 := hk
    match k, hk with
    | 0, _ => exact (by kernel_rfl : (K.zT ctx 29).get 0 = some (.int .i64 (.ofNat 0)))
    | 1, _ => exact (by kernel_rfl : (K.zT ctx 29).get 1 = some (.int .i64 (.ofNat 0)))
    | 2, _ => exact (by kernel_rfl : (K.zT ctx 29).get 2 = some (.int .i64 (.ofNat 0)))⟩
  obtain ⟨h3, t1, t2, t3, t4⟩ := hh.store (l' := fl1) rfl rfl
  refine ⟨h3, ?_, ⟨by rw [t3, s2]; show h.next ≤ h.next + 1 + 1; omega, fun id hi => by rw [t4 id (by omega), s4.obj id (by show id < h.next + 1; omega), g1.obj id hi]⟩⟩
  rw [v6]
  unfold r6
  have l1 : fl1.length = 3 := rfl
  simp only [K.uncons_cons, K.unnil_nil, K.allocK_eq, z29, Am.new_fst, K.callFK_of (v14 m (hs _ g1)), z14]
  show K.stsK 3 (.ptr (h.new (.cells 3 (K.zT ctx 29))).2.next 0) (.agg fl1) _ _ = _
  refine (K.stsK_of l1 s1).trans ?_
  rw [K.ldsK_holds s3 (off := 0) (n := 3) (Nat.le_refl 3)]
  refine (K.stsK_of l1 t1).trans ?_
  rw [K.unmarkK_nil, K.asPtr_ptr]
  exact K.loads_of (t2.loads (off := 0) (n := 3) (Nat.le_refl 3))
end YtbigljebnajniaaGreatDoorCnM
