/- A mount of a new device. -/
import Derived.Test.YtbigljebnajniabGreatMfW10
namespace YtbigljebnajniabGreatMfM
open Go Am
set_option maxRecDepth 100000
theorem getD_set {xs : List Nat} {i j a : Nat} : (xs.set i a).getD j default = if i = j ∧ i < xs.length then a else xs.getD j default := by
  rw [List.getD_eq_getElem?_getD, List.getElem?_set]
  by_cases h : i = j
  · subst h
    by_cases h2 : i < xs.length
    · simp [h2]
    · simp [h2]
  · simp [h]
theorem fm_at {W B j : Nat} (hg : Geo W B) : (fmtL W B).getD j default = if j = 296 + 208 * W + 1 then 1 else if j = 296 + 208 * W then 2 else if j = 272 + 208 * W then 1 else if j = 264 + 208 * W then 3 else if j = 3 then B else if j = 2 then 11 else if j = 1 then W else if j = 0 then 32762617960297063 else 0 := by
  obtain ⟨w1, w4, b1, b4⟩ := hg
  unfold fmtL Nw
  rw [getD_set]
  by_cases e0 : 296 + 208 * W + 1 = j
  · rw [if_pos ⟨e0, by simp only [List.length_set, List.length_replicate]; omega⟩, if_pos e0.symm]
  rw [if_neg (fun q => e0 q.1), if_neg (fun q => e0 q.symm)]
  rw [getD_set]
  by_cases e1 : 296 + 208 * W = j
  · rw [if_pos ⟨e1, by simp only [List.length_set, List.length_replicate]; omega⟩, if_pos e1.symm]
  rw [if_neg (fun q => e1 q.1), if_neg (fun q => e1 q.symm)]
  rw [getD_set]
  by_cases e2 : 272 + 208 * W = j
  · rw [if_pos ⟨e2, by simp only [List.length_set, List.length_replicate]; omega⟩, if_pos e2.symm]
  rw [if_neg (fun q => e2 q.1), if_neg (fun q => e2 q.symm)]
  rw [getD_set]
  by_cases e3 : 264 + 208 * W = j
  · rw [if_pos ⟨e3, by simp only [List.length_set, List.length_replicate]; omega⟩, if_pos e3.symm]
  rw [if_neg (fun q => e3 q.1), if_neg (fun q => e3 q.symm)]
  rw [getD_set]
  by_cases e4 : 3 = j
  · rw [if_pos ⟨e4, by simp only [List.length_set, List.length_replicate]; omega⟩, if_pos e4.symm]
  rw [if_neg (fun q => e4 q.1), if_neg (fun q => e4 q.symm)]
  rw [getD_set]
  by_cases e5 : 2 = j
  · rw [if_pos ⟨e5, by simp only [List.length_set, List.length_replicate]; omega⟩, if_pos e5.symm]
  rw [if_neg (fun q => e5 q.1), if_neg (fun q => e5 q.symm)]
  rw [getD_set]
  by_cases e6 : 1 = j
  · rw [if_pos ⟨e6, by simp only [List.length_set, List.length_replicate]; omega⟩, if_pos e6.symm]
  rw [if_neg (fun q => e6 q.1), if_neg (fun q => e6 q.symm)]
  rw [getD_set]
  by_cases e7 : 0 = j
  · rw [if_pos ⟨e7, by simp only [List.length_set, List.length_replicate]; omega⟩, if_pos e7.symm]
  rw [if_neg (fun q => e7 q.1), if_neg (fun q => e7 q.symm)]
  rw [List.getD_eq_getElem?_getD, List.getElem?_replicate]
  split <;> rfl
abbrev gL (W B : Nat) : List AV := [.int .i64 (.ofNat W), .int .i64 (.ofNat 11), .int .i64 (.ofNat B)]
section
variable {L F r1 r2 : List As} {h : H} {Q : AV → H → Prop} {f : AV → H → K.KR} {N W B d wid n : Nat} {ws : List Wd} {x y z x' y' z' : Int}
theorem p41 {sid : Nat} {tg : Nat} (hg : Geo W B) (ht : tg / 2 = 1) [hp : Hp h (.a sid (.c ((fmtL W B).map w64)) :: F)] :
    Ok (K.run (tbG W B) ty (N + 2) (.fn 41) [.slice sid 0 (Nw W B) tg] h) (fun u h' => u = .tup [.agg (gL W B), .bool true] ∧ Hp h' (.a sid (.c ((fmtL W B).map w64)) :: F)) := by
  have ⟨w1, w4, b1, b4⟩ := hg
  have hN : Nw W B = 456 + 208 * W + 8 * B := rfl
  have hl : (fmtL W B).length = Nw W B := by simp [fmtL, Nw]
  have g0 : (fmtL W B).getD 0 default = 32762617960297063 := by rw [fm_at hg, if_neg (by omega), if_neg (by omega), if_neg (by omega), if_neg (by omega)]; rfl
  have g1 : (fmtL W B).getD 1 default = W := by rw [fm_at hg, if_neg (by omega), if_neg (by omega), if_neg (by omega), if_neg (by omega)]; rfl
  have g2 : (fmtL W B).getD 2 default = 11 := by rw [fm_at hg, if_neg (by omega), if_neg (by omega), if_neg (by omega), if_neg (by omega)]; rfl
  have g3 : (fmtL W B).getD 3 default = B := by rw [fm_at hg, if_neg (by omega), if_neg (by omega), if_neg (by omega), if_neg (by omega)]; rfl
  rw [u41]; unfold r41
  (repeat first | intro _ | refine Stp.to ?_ | refine Lk.mk' rfl ?_ | (apply Sd.mk; case s => first | exact True.intro | omega | ((repeat' apply And.intro) <;> first | exact True.intro | rfl | omega | (simp only [List.length_set, List.length_modify, List.length_take, List.length_drop, List.length_map, List.length_replicate, List.length_append, List.length_cons, List.length_nil]; omega))) | refine Br.l (by first | assumption | omega) ?_ | refine Br.r (by first | assumption | omega) ?_)
  rw [g1, g2, g3, mx41, mxI_eq, mxI_eq]
  (repeat first | intro _ | refine Stp.to ?_ | refine Lk.mk' rfl ?_ | (apply Sd.mk; case s => first | exact True.intro | omega | ((repeat' apply And.intro) <;> first | exact True.intro | rfl | omega | (simp only [List.length_set, List.length_modify, List.length_take, List.length_drop, List.length_map, List.length_replicate, List.length_append, List.length_cons, List.length_nil]; omega))) | refine Br.l (by first | assumption | omega) ?_ | refine Br.r (by first | assumption | omega) ?_)
  rename_i h8 hp8
  rw [g1, g2, g3] at hp8
  rw [g1, g2, g3]
  (repeat first | intro _ | refine Stp.to ?_ | refine Lk.mk' rfl ?_ | (apply Sd.mk; case s => first | exact True.intro | omega | ((repeat' apply And.intro) <;> first | exact True.intro | rfl | omega | (simp only [List.length_set, List.length_modify, List.length_take, List.length_drop, List.length_map, List.length_replicate, List.length_append, List.length_cons, List.length_nil]; omega))) | refine Br.l (by first | assumption | omega) ?_ | refine Br.r (by first | assumption | omega) ?_)
  exact ⟨rfl, Hp.to⟩
theorem p24 {i v : Nat} [hp : Hp h (dO d wid n :: wO wid ws :: F)] (hi : i < n) (hl : n = ws.length) (hn : n ≤ 65536) :
    Ok (K.run (tbG W B) ty (N + 2) (.fn 24) [.ptr d 0, .int .i64 i] h) (fun u h' => u = .tup [w64 (ws.getD i default).seen, .int .i64 (.ofNat 0)] ∧ Hp h' (dO d wid n :: wO wid ws :: F)) := by
  rw [u24]; unfold r24
  (repeat first | intro _ | refine Stp.to ?_ | refine Lk.mk' rfl ?_ | (apply Sd.mk; case s => first | exact True.intro | omega | ((repeat' apply And.intro) <;> first | exact True.intro | rfl | omega | (simp only [List.length_set, List.length_modify, List.length_take, List.length_drop, List.length_map, List.length_replicate, List.length_append, List.length_cons, List.length_nil]; omega))) | refine Br.l (by first | assumption | omega) ?_ | refine Br.r (by first | assumption | omega) ?_)
  exact ⟨rfl, Hp.to⟩
instance c24 {i : Nat} {s : Prop} [hp : Hp h L] [q1 : Pk L d (dO d wid n) r1] [q2 : Pk r1 wid (wO wid ws) r2] [nx : NN x i s] : Stp (K.callFK (K.run (tbG W B) ty N) 24 [.ptr d 0, .int .i64 x] h f) Q
    (Sd (s ∧ 2 ≤ N ∧ i < n ∧ n = ws.length ∧ n ≤ 65536) (∀ h', Hp h' (dO d wid n :: wO wid ws :: r2) → Ok (f (.tup [w64 (ws.getD i default).seen, .int .i64 (.ofNat 0)]) h') Q)) := ⟨fun p => by
  obtain ⟨⟨p0, p1, p2, p3, p4⟩, p⟩ := p
  obtain ⟨N, rfl⟩ : ∃ m, N = m + 2 := ⟨N - 2, by omega⟩
  rw [nx.eq p0]
  haveI := hp.perm (q1.perm.trans (q2.perm.cons _))
  exact ok_call (p24 (v := 0) p2 p3 p4) fun v h' hr => by obtain ⟨rfl, hr⟩ := hr; exact p h' hr⟩
theorem p79 {aid m : Nat} {xs : List Nat} (h0 : xs.getD 0 default = 0) (hm : m = xs.length) (h8 : 8 < m) (gv : AV) (hgv : ∃ l, gv = .agg l) [hp : Hp h (.a aid (.c (xs.map w64)) :: F)] :
    Ok (K.run (tbG W B) ty (N + 1) (.fn 79) [gv, .slice aid 0 m 2] h) (fun u h' => u = .tup [.nilSlice, .bool false, .bool false] ∧ Hp h' (.a aid (.c (xs.map w64)) :: F)) := by
  obtain ⟨l, rfl⟩ := hgv
  rw [u79]; unfold r79
  (repeat first | intro _ | refine Stp.to ?_ | refine Lk.mk' rfl ?_ | (apply Sd.mk; case s => first | exact True.intro | omega | ((repeat' apply And.intro) <;> first | exact True.intro | rfl | omega | (simp only [List.length_set, List.length_modify, List.length_take, List.length_drop, List.length_map, List.length_replicate, List.length_append, List.length_cons, List.length_nil]; omega))) | refine Br.l (by first | assumption | omega) ?_ | refine Br.r (by first | assumption | omega) ?_)
  exact ⟨rfl, Hp.to⟩
theorem p44 [hp : Hp h F] : Ok (K.run (tbG W B) ty (N + 1) (.fn 44) [.nilPtr] h) (fun u h' => u = .int .i64 (.ofNat 0) ∧ Hp h' F) := by
  rw [u44]; unfold r44
  (repeat first | intro _ | refine Stp.to ?_ | refine Lk.mk' rfl ?_ | (apply Sd.mk; case s => first | exact True.intro | omega | ((repeat' apply And.intro) <;> first | exact True.intro | rfl | omega | (simp only [List.length_set, List.length_modify, List.length_take, List.length_drop, List.length_map, List.length_replicate, List.length_append, List.length_cons, List.length_nil]; omega))) | refine Br.l (by first | assumption | omega) ?_ | refine Br.r (by first | assumption | omega) ?_)
  exact ⟨rfl, hp⟩
theorem p17 {w : Nat} (hg : Geo W B) (hw : w < W) [hp : Hp h (dO d wid (Nw W B) :: F)] : Ok (K.run (tbG W B) ty (N + 4) (.fn 17) [.ptr d 0, .agg (gL W B), .int .i64 w] h)
    (fun u h' => ∃ rid, u = .tup [.ptr rid 0, .int .i64 (.ofNat 0)] ∧ Hp h' (.a rid (.c [.ptr d 0, .int .i64 (.ofNat W), .int .i64 (.ofNat 11), .int .i64 (.ofNat B), wi ((264 + 208 * w : Nat) : Int), .nilSlice]) :: dO d wid (Nw W B) :: F)) := by
  have ⟨w1, w4, b1, b4⟩ := hg
  have hN : Nw W B = 456 + 208 * W + 8 * B := rfl
  rw [u17]; unfold r17
  (repeat first | intro _ | refine Stp.to ?_ | refine Lk.mk' rfl ?_ | (apply Sd.mk; case s => first | exact True.intro | omega | ((repeat' apply And.intro) <;> first | exact True.intro | rfl | omega | (simp only [List.length_set, List.length_modify, List.length_take, List.length_drop, List.length_map, List.length_replicate, List.length_append, List.length_cons, List.length_nil]; omega))) | refine Br.l (by first | assumption | omega) ?_ | refine Br.r (by first | assumption | omega) ?_)
  refine ok_call (p46 (N := N) hg hw) fun v h' hr => ?_
  obtain ⟨rfl, hr⟩ := hr
  (repeat first | intro _ | refine Stp.to ?_ | refine Lk.mk' rfl ?_ | (apply Sd.mk; case s => first | exact True.intro | omega | ((repeat' apply And.intro) <;> first | exact True.intro | rfl | omega | (simp only [List.length_set, List.length_modify, List.length_take, List.length_drop, List.length_map, List.length_replicate, List.length_append, List.length_cons, List.length_nil]; omega))) | refine Br.l (by first | assumption | omega) ?_ | refine Br.r (by first | assumption | omega) ?_)
  exact ⟨_, rfl, Hp.to⟩
end
end YtbigljebnajniabGreatMfM
