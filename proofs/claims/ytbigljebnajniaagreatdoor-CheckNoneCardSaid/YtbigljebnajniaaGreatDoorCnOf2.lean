import Derived.Test.YtbigljebnajniaaGreatDoorCnOf
import Derived.Test.YtbigljebnajniaaGreatDoorCnPan
namespace YtbigljebnajniaaGreatDoorCnM
open Go Am
set_option maxRecDepth 100000
theorem _root_.Am.Holds.store {h : H} {id : Nat} {l l' : List AV} (e : Holds h id l) (hl : l'.length = l.length) (hc : allB AV.isCell l' = true) : ∃ h', h.stores id 0 l' = some h' ∧ Holds h' id l' ∧ h'.next = h.next ∧ ∀ x, x ≠ id → h'.obj x = h.obj x := by
  obtain ⟨t, h1, h2⟩ := e
  refine ⟨h.upd id (.cells l.length (setCells t 0 l')), ?_, ⟨_, by rw [hl]; exact upd_obj_self _ _ _, setCells_get0⟩, rfl, fun x hx => upd_obj_old hx⟩
  unfold H.stores
  rw [h1]
  simp only [Nat.zero_add, Nat.ble_eq_true_of_le (Nat.le_of_eq hl), hc]
def mx (a b : Int) : Int := match ltI a b with | true => b | false => a
theorem mx5 (run : K.KRun) (a b c : Int) (h : H) (g : AV → H → K.KR) : K.slowK ctx run (K.opAt Go.Proofs.Tryz.f5 1 19) [16, 19, 22] [.int .u64 a, .int .u64 b, .int .u64 c] h g = g (.int .u64 (mx (mx a b) c)) h :=
  (by kernel_rfl : K.slowK ctx run (K.opAt Go.Proofs.Tryz.f5 1 19) [16, 19, 22] [.int .u64 a, .int .u64 b, .int .u64 c] h g = K.rK (.ok (.int .u64 (mx (mx a b) c), h)) g).trans (K.rK_of _ _)
theorem cv5 (a : Int) (h : H) (g : AV → H → K.KR) : K.rK (convA ctx 37 3 (.int .u64 a) h) g = g (.int .i64 (wrapI .i64 a)) h :=
  (by kernel_rfl : K.rK (convA ctx 37 3 (.int .u64 a) h) g = K.rK (.ok (.int .i64 (wrapI .i64 a), h)) g).trans (K.rK_of _ _)
theorem b25 (g : AV → K.KR) : K.bldSK ctx 25 [] g = g g0 := K.bldSK_of (l := [.int .i64 (.ofNat 0), .int .i64 (.ofNat 0), .int .i64 (.ofNat 0)]) (fun f => by kernel_rfl)
theorem b25g (a b c : Int) (g : AV → K.KR) : K.bldSK ctx 25 [(0, .int .i64 a), (1, .int .i64 b), (2, .int .i64 c)] g = g (.agg [.int .i64 a, .int .i64 b, .int .i64 c]) := K.bldSK_of (fun f => by kernel_rfl)
theorem _root_.Am.K.asPtr_ptr (id off : Nat) (k : Nat → Nat → K.KR) : K.asPtr (.ptr id off) k = k id off := rfl
theorem no5 {id : Nat} {h : H} {l : List AV} (e : Holds h id l) (hl : l.length = 3) : ∃ h', (K.bldSK ctx 25 [] fun t53 => K.stsK 3 (.ptr id 0) t53 h fun h54 => K.unmarkK [] h54 fun h55 => K.asPtr (.ptr id 0) fun n56 n57 => K.loads h55 n56 n57 3 fun t58 => .ok (.tup [(.agg t58), (.bool false)]) h55) = .ok z5 h' ∧ ∀ x, x ≠ id → h'.obj x = h.obj x := by
  obtain ⟨h', s1, s2, _, s4⟩ := e.store (l' := [.int .i64 (.ofNat 0), .int .i64 (.ofNat 0), .int .i64 (.ofNat 0)]) (by rw [hl]; rfl) rfl
  refine ⟨h', ?_, s4⟩
  rw [b25]
  refine (K.stsK_of rfl s1).trans ?_
  rw [K.unmarkK_nil, K.asPtr_ptr]
  exact K.loads_of (s2.loads (off := 0) (n := 3) (Nat.le_refl 3))
theorem w5 (m n len tag : Nat) (t : T AV) (W : Nat → Int) (hlen : len ≤ n) (htag : tag / 2 = 1) (hW : ∀ k, k < n → t.get k = some (.int .u64 (W k))) :
    ∃ g b hf, K.run tb ty (m + 4) (.fn 5) [.slice 0 0 len tag] (Am.hW n t) = .ok (.tup [.agg g, .bool b]) hf ∧ AV.flats g = true ∧ g.length = 3 ∧ allB AV.isCell g = true ∧ (b = false → AV.agg g = g0) ∧ hf.obj 0 = some (.cells n t) := by
  have hz : K.zN ctx 25 = 3 := by kernel_rfl
  have e8 : (Int.ofNat 8) = ((8 : Nat) : Int) := rfl
  have row : RowF (((Am.hW n t).new (.cells 3 (K.zT ctx 25))).2) 0 n (fun k => .int .u64 (W k)) := ⟨t, rfl, hW⟩
  have o0 : (((Am.hW n t).new (.cells 3 (K.zT ctx 25))).2).obj 0 = some (.cells n t) := rfl
  have hh : Holds (((Am.hW n t).new (.cells 3 (K.zT ctx 25))).2) 1 [.int .i64 (.ofNat 0), .int .i64 (.ofNat 0), .int .i64 (.ofNat 0)] := ⟨K.zT ctx 25, new_obj_self _ _, fun k hk => by
    have hk : k < 3 := hk
    match k, hk with
    | 0, _ => exact (by kernel_rfl : (K.zT ctx 25).get 0 = some (.int .i64 (.ofNat 0)))
    | 1, _ => exact (by kernel_rfl : (K.zT ctx 25).get 1 = some (.int .i64 (.ofNat 0)))
    | 2, _ => exact (by kernel_rfl : (K.zT ctx 25).get 2 = some (.int .i64 (.ofNat 0)))⟩
  obtain ⟨hn, en, on⟩ := no5 hh rfl
  have no : ∃ g b hf, K.KR.ok z5 hn = .ok (.tup [.agg g, .bool b]) hf ∧ AV.flats g = true ∧ g.length = 3 ∧ allB AV.isCell g = true ∧ (b = false → AV.agg g = g0) ∧ hf.obj 0 = some (.cells n t) :=
    ⟨[.int .i64 (.ofNat 0), .int .i64 (.ofNat 0), .int .i64 (.ofNat 0)], false, hn, rfl, rfl, rfl, rfl, fun _ => rfl, by rw [on 0 (by omega)]; exact o0⟩
  rw [u5]
  unfold r5
  simp only [K.uncons_cons, K.unnil_nil, K.allocK_eq, hz, Am.new_fst, K.lenVK_slice, K.ltK_int, ltI_nat]
  rw [show (Am.hW n t).next = 1 from rfl]
  by_cases h8 : len < 8
  · simp only [h8, decide_true, K.letK_eq, K.guK_f, K.pickK_b, cond_true, K.iteV_b]
    rw [en]
    exact no
  · simp only [h8, decide_false, K.letK_eq, K.guK_f, K.pickK_b, cond_true, cond_false, K.iteV_b, K.idxSK_of (show 0 < len by omega) htag, K.idxSK_of (show 1 < len by omega) htag, K.idxSK_of (show 2 < len by omega) htag, K.idxSK_of (show 3 < len by omega) htag,
      K.ldK_row row (show 0 + 0 * 1 < n by omega), K.ldK_row row (show 0 + 1 * 1 < n by omega), K.ldK_row row (show 0 + 2 * 1 < n by omega), K.ldK_row row (show 0 + 3 * 1 < n by omega), K.neK_int]
    cases hmag : eqI (W (0 + 0 * 1)) (.ofNat 32762617960297063) with
    | false =>
      simp only [hmag, Bool.not_false, K.letK_eq, K.guK_f, K.pickK_b, cond_true, cond_false, K.iteV_b]
      rw [en]
      exact no
    | true =>
      simp only [hmag, Bool.not_true, K.letK_eq, K.guK_f, K.pickK_b, cond_true, cond_false, K.iteV_b, mx5, K.gtK_int]
      cases hmx : ltI (.ofNat 512) (mx (mx (W (0 + 1 * 1)) (W (0 + 2 * 1))) (W (0 + 3 * 1))) with
      | true =>
        simp only [hmx, K.iteV_b, cond_true]
        rw [en]
        exact no
      | false =>
        simp only [hmx, K.iteV_b, cond_false]
        rw [K.ldK_row row (show 0 + 1 * 1 < n by omega), cv5, K.ldK_row row (show 0 + 2 * 1 < n by omega), cv5, K.ldK_row row (show 0 + 3 * 1 < n by omega), cv5, b25g]
        generalize wrapI .i64 (W (0 + 1 * 1)) = a
        generalize wrapI .i64 (W (0 + 2 * 1)) = b
        generalize wrapI .i64 (W (0 + 3 * 1)) = c
        obtain ⟨h2, s1, s2, s3, s4⟩ := hh.store (l' := [.int .i64 a, .int .i64 b, .int .i64 c]) rfl rfl
        have n2 : h2.next = 2 := by rw [s3]; rfl
        have o2 : h2.obj 0 = some (.cells n t) := by rw [s4 0 (by omega)]; exact o0
        have l3 : [AV.int .i64 a, .int .i64 b, .int .i64 c].length = 3 := rfl
        simp only [K.stsK_of l3 s1, K.ldsK_holds s2 (off := 0) (n := 3) (Nat.le_refl 3), List.drop_zero, List.take_succ_cons, List.take_zero, c12 (m + 1), K.notK_b]
        have g3 : Grows h2 (newCells [.int .i64 a, .int .i64 b, .int .i64 c] h2).2 := Grows.newCells _ _
        have hh3 : Holds (newCells [.int .i64 a, .int .i64 b, .int .i64 c] h2).2 1 [.int .i64 a, .int .i64 b, .int .i64 c] := s2.ext g3 (by omega)
        have fin : ∀ (h3 : H), Grows h2 h3 → ∃ g b hf, (K.bldSK ctx 25 [] fun t53 => K.stsK 3 (.ptr 1 0) t53 h3 fun h54 => K.unmarkK [] h54 fun h55 => K.asPtr (.ptr 1 0) fun n56 n57 => K.loads h55 n56 n57 3 fun t58 => .ok (.tup [(.agg t58), (.bool false)]) h55) = .ok (.tup [.agg g, .bool b]) hf ∧ AV.flats g = true ∧ g.length = 3 ∧ allB AV.isCell g = true ∧ (b = false → AV.agg g = g0) ∧ hf.obj 0 = some (.cells n t) := fun h3 G => by
          obtain ⟨h4, e4, q4⟩ := no5 (s2.ext G (by omega)) rfl
          exact ⟨[.int .i64 (.ofNat 0), .int .i64 (.ofNat 0), .int .i64 (.ofNat 0)], false, h4, e4, rfl, rfl, rfl, fun _ => rfl, by rw [q4 0 (by omega), G.obj 0 (by omega)]; exact o2⟩
        cases hm : mayB a b c with
        | false =>
          simp only [hm, Bool.not_false, K.letK_eq, K.guK_f, K.pickK_b, cond_true, cond_false, K.iteV_b]
          exact fin _ g3
        | true =>
          obtain ⟨z, h5, e5, g5⟩ := w13 m a b c (newCells [.int .i64 a, .int .i64 b, .int .i64 c] h2).2 hm
          have hh5 := hh3.ext g5 (by show 1 < h2.next + 1; omega)
          simp only [hm, Bool.not_true, K.letK_eq, K.guK_f, K.pickK_b, cond_true, cond_false, K.iteV_b, K.lenVK_slice, K.ldsK_holds hh3 (off := 0) (n := 3) (Nat.le_refl 3), List.drop_zero, List.take_succ_cons, List.take_zero, K.callFK_of e5, K.ltK_int]
          cases hz2 : ltI (.ofNat len) z with
          | true =>
            simp only [hz2, cond_true]
            exact fin _ (g3.trans g5)
          | false =>
            obtain ⟨h6, t1, t2, t3, t4⟩ := hh5.store (l' := [.int .i64 a, .int .i64 b, .int .i64 c]) rfl rfl
            simp only [hz2, cond_false, K.ldsK_holds hh5 (off := 0) (n := 3) (Nat.le_refl 3), List.drop_zero, List.take_succ_cons, List.take_zero, K.stsK_of l3 t1, K.unmarkK_nil, K.asPtr_ptr]
            refine ⟨[.int .i64 a, .int .i64 b, .int .i64 c], true, h6, ?_, rfl, rfl, rfl, (fun e => by cases e), by rw [t4 0 (by omega), (g3.trans g5).obj 0 (by omega)]; exact o2⟩
            exact K.loads_of (t2.loads (off := 0) (n := 3) (Nat.le_refl 3))
end YtbigljebnajniaaGreatDoorCnM
