import Derived.Test.YtbigljebnajniaaGreatDoorCnL3
namespace YtbigljebnajniaaGreatDoorCnM
open Go Am
set_option maxRecDepth 100000
theorem st1 {h : H} {id : Nat} {v u : AV} {t : T AV} (e : h.obj id = some (.cells 1 t)) (hc : v.isCell = true) : ∃ h', h.stores id 0 [v] = some h' ∧ h'.obj id = some (.cells 1 (setCells t 0 [v])) ∧ h'.next = h.next ∧ ∀ x, x ≠ id → h'.obj x = h.obj x := by
  refine ⟨h.upd id (.cells 1 (setCells t 0 [v])), ?_, upd_obj_self _ _ _, rfl, fun x hx => upd_obj_old hx⟩
  unfold H.stores
  rw [e]
  have hb : allB AV.isCell [v] = true := by rw [allB_iff]; intro a ha; rw [List.mem_singleton.1 ha]; exact hc
  simp only [List.length_cons, List.length_nil, Nat.zero_add, hb]
theorem w7 (s5 s14 : Sum) (m : Nat) (a : AV) (h : H) (hs : ∀ h', Grows h h' → s14 [a] h' = some (z14, h')) : ∃ h', K.run (tb3 s5 s14) ty (m + 2) (.fn 7) [a] h = .ok .nilSlice h' ∧ Grows h h' := by
  have g1 : Grows h (h.new (.cells 1 (K.zT ctx 32))).2 := Grows.new _ _
  generalize hh1 : (h.new (.cells 1 (K.zT ctx 32))).2 = h1 at g1
  have n1 : h1.next = h.next + 1 := by rw [← hh1]; rfl
  have o1 : h1.obj h.next = some (.cells 1 (K.zT ctx 32)) := by rw [← hh1]; exact new_obj_self _ _
  have g2 : Grows h1 (h1.new (.cells 1 (K.zT ctx 43))).2 := Grows.new _ _
  generalize hh2 : (h1.new (.cells 1 (K.zT ctx 43))).2 = h2 at g2
  have n2 : h2.next = h1.next + 1 := by rw [← hh2]; rfl
  have o2 : h2.obj h1.next = some (.cells 1 (K.zT ctx 43)) := by rw [← hh2]; exact new_obj_self _ _
  have g3 : Grows h2 (h2.new (.cells 3 (K.zT ctx 29))).2 := Grows.new _ _
  generalize hh3 : (h2.new (.cells 3 (K.zT ctx 29))).2 = h3 at g3
  have n3 : h3.next = h2.next + 1 := by rw [← hh3]; rfl
  have o3 : h3.obj h2.next = some (.cells 3 (K.zT ctx 29)) := by rw [← hh3]; exact new_obj_self _ _
  have o32 : h3.obj h1.next = some (.cells 1 (K.zT ctx 43)) := by rw [g3.obj _ (by omega)]; exact o2
  obtain ⟨h4, s1, s2, s3, s4⟩ := st1 (v := .nilPtr) (u := .unk) o32 rfl
  have hh : Holds h4 h2.next [.int .i64 (.ofNat 0), .int .i64 (.ofNat 0), .int .i64 (.ofNat 0)] := ⟨_, by rw [s4 _ (by omega)]; exact o3, fun k hk => by
    have hk : k < 3 := hk
    match k, hk with
    | 0, _ => exact (by kernel_rfl : (K.zT ctx 29).get 0 = some (.int .i64 (.ofNat 0)))
    | 1, _ => exact (by kernel_rfl : (K.zT ctx 29).get 1 = some (.int .i64 (.ofNat 0)))
    | 2, _ => exact (by kernel_rfl : (K.zT ctx 29).get 2 = some (.int .i64 (.ofNat 0)))⟩
  obtain ⟨h5, t1, t2, t3, t4⟩ := hh.store (l' := fl1) rfl rfl
  have o5 : h5.obj h.next = some (.cells 1 (K.zT ctx 32)) := by rw [t4 _ (by omega), s4 _ (by omega), g3.obj _ (by omega), g2.obj _ (by omega)]; exact o1
  obtain ⟨h6, q1, q2, q3, q4⟩ := st1 (v := .nilSlice) (u := .unk) o5 rfl
  refine ⟨h6, ?_, ⟨by omega, fun id hi => by rw [q4 id (by omega), t4 id (by omega), s4 id (by omega), g3.obj id (by omega), g2.obj id (by omega), g1.obj id hi]⟩⟩
  rw [v7]
  unfold r7
  have l1 : fl1.length = 3 := rfl
  simp only [K.uncons_cons, K.unnil_nil, K.allocK_eq, z29, z32, z43, Am.new_fst, hh1, hh2, hh3, K.callFK_of (v14 m (hs _ g1)), z14]
  show K.stK (.ptr h1.next 0) .nilPtr h3 _ = _
  rw [K.stK_nilPtr s1]
  refine (K.stsK_of l1 t1).trans ?_
  simp only [K.notK_b, Bool.not_false, K.iteV_b, cond_true, K.stK_nilSlice q1, K.unmarkK_nil, K.asPtr_ptr]
  refine K.load1_of ?_
  rw [loads_obj, q2]
  rfl
theorem stsg (h : H) : ∃ h2, (h.new (.cells 3 (K.zT ctx 25))).2.stores h.next 0 [.int .i64 (.ofNat 0), .int .i64 (.ofNat 0), .int .i64 (.ofNat 0)] = some h2 ∧ Grows h h2 := by
  obtain ⟨h2, s1, s2, s3, s4⟩ := alloc_store (h := h) (n := 3) (t := K.zT ctx 25) (l := [.int .i64 (.ofNat 0), .int .i64 (.ofNat 0), .int .i64 (.ofNat 0)]) rfl rfl
  exact ⟨h2, s1, s4⟩
theorem z25 : K.zN ctx 25 = 3 := by kernel_rfl
/-- too long -/
theorem lawA (s5 s14 : Sum) (m len tag : Nat) (h : H) (hlen : ¬ len ≤ 8192) : K.run (tb3 s5 s14) ty (m + 2) (.fn 3) [.slice 0 0 len tag] h = .ok (.bool true) h := by
  rw [v3]
  unfold r3
  have e : decide (8192 < len) = true := by simp; omega
  simp only [K.uncons_cons, K.unnil_nil, K.lenVK_slice, K.gtK_int, ltI_nat, e, K.iteV_b, cond_true, K.callFK_of (v4 s5 s14 m h), K.unmarkK_nil]
/-- a device -/
theorem lawB (s5 s14 : Sum) (m len tag : Nat) (h : H) (g : List AV) (hlen : len ≤ 8192) (hg : g.length = 3) (hf : AV.flats g = true) (hc : allB AV.isCell g = true) (h5 : s5 [.slice 0 0 len tag] h = some (.tup [.agg g, .bool true], h)) :
    ∃ h', K.run (tb3 s5 s14) ty (m + 2) (.fn 3) [.slice 0 0 len tag] h = .ok (.bool true) h' ∧ Grows h h' := by
  obtain ⟨h2, s1, s2, s3, s4⟩ := alloc_store (h := h) (n := 3) (t := K.zT ctx 25) (l := g) hg hc
  refine ⟨h2, ?_, s4⟩
  rw [v3]
  unfold r3
  have e : decide (8192 < len) = false := by simp; omega
  simp only [K.uncons_cons, K.unnil_nil, K.lenVK_slice, K.gtK_int, ltI_nat, e, K.iteV_b, cond_false, K.callFK_of (v5 m h5), K.extK_0, K.extK_1, K.allocK_eq, z25, Am.new_fst]
  refine (K.stsK_of hg s1).trans ?_
  simp only [cond_true, K.callFK_of (v4 s5 s14 m h2), K.unmarkK_nil]
/-- no device -/
theorem lawC (s5 s14 : Sum) (m len tag : Nat) (h : H) (hlen : len ≤ 8192) (h5 : s5 [.slice 0 0 len tag] h = some (z5, h)) (hs : ∀ h', Grows h h' → s14 [.slice 0 0 len tag] h' = some (z14, h')) :
    ∃ h', K.run (tb3 s5 s14) ty (m + 3) (.fn 3) [.slice 0 0 len tag] h = .ok (.bool true) h' ∧ Grows h h' := by
  obtain ⟨h2, s1, g1⟩ := stsg h
  obtain ⟨h3, e3, g3⟩ := w6 s5 s14 m (.slice 0 0 len tag) h2 fun h' q => hs h' (g1.trans q)
  obtain ⟨h4, t1, t2, t3, g4⟩ := alloc_store (h := h3) (n := 3) (t := K.zT ctx 29) (l := fl1) rfl rfl
  obtain ⟨h5', e5, g5⟩ := w7 s5 s14 m (.slice 0 0 len tag) h4 fun h' q => hs h' (g1.trans (g3.trans (g4.trans q)))
  refine ⟨h5', ?_, g1.trans (g3.trans (g4.trans g5))⟩
  rw [v3]
  unfold r3
  have e : decide (8192 < len) = false := by simp; omega
  have l1 : fl1.length = 3 := rfl
  have b29 : ∀ g : AV → K.KR, K.bldSK ctx 29 [(0, .int .i64 (.ofNat 1))] g = g (.agg fl1) := fun g => K.bldSK_of (fun f => by kernel_rfl)
  have eq29 : ∀ g : AV → K.KR, K.eqK (K.binV ctx .eql 29 false (.agg fl1) (.agg fl1)) (.agg fl1) (.agg fl1) g = g (.bool true) := fun g => by kernel_rfl
  have ln0 : ∀ g : AV → K.KR, K.lenVK .nilSlice g = g (.int .i64 (.ofNat 0)) := fun g => rfl
  have eq0 : ∀ g : AV → K.KR, K.eqK (K.binV ctx .eql 3 true (.int .i64 (.ofNat 0)) (.int .i64 (.ofNat 0))) (.int .i64 (.ofNat 0)) (.int .i64 (.ofNat 0)) g = g (.bool true) := fun g => by kernel_rfl
  simp only [K.uncons_cons, K.unnil_nil, K.lenVK_slice, K.gtK_int, ltI_nat, e, K.iteV_b, cond_false, K.callFK_of (v5 (m + 1) h5), K.extK_0, K.extK_1, K.allocK_eq, z25, z29, Am.new_fst, z5, g0]
  refine (K.stsK_of rfl s1).trans ?_
  simp only [K.callFK_of e3, K.extK_0, K.extK_1, K.allocK_eq, z29, Am.new_fst]
  refine (K.stsK_of l1 t1).trans ?_
  have ld : ∀ g : AV → K.KR, K.ldsK ctx 29 3 (.ptr h3.next 0) h4 g = g (.agg fl1) := fun g => K.ldsK_holds t3 (off := 0) (n := 3) (Nat.le_refl 3)
  simp only [K.notK_b, Bool.not_false, K.letK_eq, K.guK_t, cond_true, ld, b29, eq29, K.pickK_b, K.callFK_of e5, ln0, eq0, K.callFK_of (v4 s5 s14 (m + 1) h5'), K.unmarkK_nil]
end YtbigljebnajniaaGreatDoorCnM
