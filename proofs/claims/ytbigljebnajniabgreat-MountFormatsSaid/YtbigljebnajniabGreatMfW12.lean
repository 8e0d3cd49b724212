/- A mount of a new device has no step. -/
import Derived.Test.YtbigljebnajniabGreatMfW11
namespace YtbigljebnajniabGreatMfM
open Go Am
set_option maxRecDepth 100000
section
variable {L F r1 r2 : List As} {h : H} {Q : AV → H → Prop} {f : AV → H → K.KR} {N W B d wid n : Nat} {ws : List Wd} {x y z x' y' z' : Int}
abbrev runO (rid d W B w : Nat) : As := .a rid (.c [.ptr d 0, .int .i64 (.ofNat W), .int .i64 (.ofNat 11), .int .i64 (.ofNat B), wi ((264 + 208 * w : Nat) : Int), .nilSlice])
theorem p70 {rid w : Nat} (hg : Geo W B) (hw : w < W) (hl : Nw W B = ws.length) (hz : (ws.getD (264 + 208 * w) default).seen = 0) [hp : Hp h (runO rid d W B w :: dO d wid (Nw W B) :: wO wid ws :: F)] :
    Ok (K.run (tbG W B) ty (N + 4) (.fn 70) [.ptr rid 0] h) (fun u h' => u = .tup [.bool false, .int .i64 (.ofNat 0)] ∧ Hp h' (runO rid d W B w :: dO d wid (Nw W B) :: wO wid ws :: F)) := by
  have ⟨w1, w4, b1, b4⟩ := hg
  have hN : Nw W B = 456 + 208 * W + 8 * B := rfl
  have hw2 : 208 * w + 208 ≤ 208 * W := by omega
  rw [u70]; unfold r70
  (repeat first | intro _ | refine Stp.to ?_ | refine Lk.mk' rfl ?_ | (apply Sd.mk; case s => first | exact True.intro | omega | ((repeat' apply And.intro) <;> first | exact True.intro | rfl | omega | (simp only [List.length_set, List.length_modify, List.length_take, List.length_drop, List.length_map, List.length_replicate, List.length_append, List.length_cons, List.length_nil]; omega))) | refine Br.l (by first | assumption | omega) ?_ | refine Br.r (by first | assumption | omega) ?_)
  refine ok_loop (fun k vs h => k ≤ 208 ∧ ((k = 0 ∧ vs = [.ptr rid 0, .nilSlice, .int .i64 (.ofNat 0)] ∧ Hp h (runO rid d W B w :: dO d wid (Nw W B) :: wO wid ws :: F)) ∨
    (0 < k ∧ ∃ id, ∃ ys : List Nat, ys.length = k ∧ ys.getD 0 default = 0 ∧ vs = [.ptr rid 0, .slice id 0 k 2, .int .i64 k] ∧ Hp h (.a id (.c (ys.map w64)) :: runO rid d W B w :: dO d wid (Nw W B) :: wO wid ws :: F)))) (fun k => 208 - k) 0 (by show 208 - 0 < 1000000; omega) ⟨by omega, .inl ⟨rfl, rfl, hp⟩⟩ ?_
  rintro self k vs h ⟨hk, ⟨rfl, rfl, hp⟩ | ⟨hk0, id, ys, hy1, hy2, rfl, hp⟩⟩ ih
  · (repeat first | intro _ | refine Stp.to ?_ | refine Lk.mk' rfl ?_ | (apply Sd.mk; case s => first | exact True.intro | omega | ((repeat' apply And.intro) <;> first | exact True.intro | rfl | omega | (simp only [List.length_set, List.length_modify, List.length_take, List.length_drop, List.length_map, List.length_replicate, List.length_append, List.length_cons, List.length_nil]; omega))) | refine Br.l (by first | assumption | omega) ?_ | refine Br.r (by first | assumption | omega) ?_)
    rename_i id h3 hp3
    refine ih 1 _ _ (by omega) ⟨by omega, .inr ⟨by omega, id, [0], rfl, rfl, rfl, ?_⟩⟩
    rw [Nat.add_zero, hz] at hp3
    exact (Hp.to : Hp h3 (.a id (.c [w64 0]) :: runO rid d W B w :: dO d wid (Nw W B) :: wO wid ws :: F))
  · rcases Nat.lt_or_eq_of_le hk with hk | rfl
    · (repeat first | intro _ | refine Stp.to ?_ | refine Lk.mk' rfl ?_ | (apply Sd.mk; case s => first | exact True.intro | omega | ((repeat' apply And.intro) <;> first | exact True.intro | rfl | omega | (simp only [List.length_set, List.length_modify, List.length_take, List.length_drop, List.length_map, List.length_replicate, List.length_append, List.length_cons, List.length_nil]; omega))) | refine Br.l (by first | assumption | omega) ?_ | refine Br.r (by first | assumption | omega) ?_)
      rename_i id2 h3 hp3
      refine ih (k + 1) _ _ (by omega) ⟨by omega, .inr ⟨by omega, id2, ys ++ [(ws.getD (264 + 208 * w + k) default).seen], ?_, ?_, by simp, Hp.to⟩⟩
      · rw [List.length_append, hy1]; rfl
      · rw [List.getD_eq_getElem?_getD, List.getElem?_append_left (by omega), ← List.getD_eq_getElem?_getD]; exact hy2
    · (repeat first | intro _ | refine Stp.to ?_ | refine Lk.mk' rfl ?_ | (apply Sd.mk; case s => first | exact True.intro | omega | ((repeat' apply And.intro) <;> first | exact True.intro | rfl | omega | (simp only [List.length_set, List.length_modify, List.length_take, List.length_drop, List.length_map, List.length_replicate, List.length_append, List.length_cons, List.length_nil]; omega))) | refine Br.l (by first | assumption | omega) ?_ | refine Br.r (by first | assumption | omega) ?_)
      refine ok_call (p79 (N := N + 2) (xs := ys) hy2 hy1.symm (by omega) _ ⟨_, rfl⟩ (hp := hp)) fun v h' hr => ?_
      obtain ⟨rfl, hr⟩ := hr
      (repeat first | intro _ | refine Stp.to ?_ | refine Lk.mk' rfl ?_ | (apply Sd.mk; case s => first | exact True.intro | omega | ((repeat' apply And.intro) <;> first | exact True.intro | rfl | omega | (simp only [List.length_set, List.length_modify, List.length_take, List.length_drop, List.length_map, List.length_replicate, List.length_append, List.length_cons, List.length_nil]; omega))) | refine Br.l (by first | assumption | omega) ?_ | refine Br.r (by first | assumption | omega) ?_)
      exact ⟨rfl, Hp.to⟩
abbrev mntO (mid d W B w : Nat) (r : AV) : As := .a mid (.c [.ptr d 0, .int .i64 (.ofNat W), .int .i64 (.ofNat 11), .int .i64 (.ofNat B), wi (w : Int), r])
theorem p43 {mid : Nat} (hg : Geo W B) (hl : Nw W B = ws.length) (hz : ∀ w, w < W → (ws.getD (264 + 208 * w) default).seen = 0) {w0 : Int} [hp : Hp h (.a mid (.c [.ptr d 0, .int .i64 (.ofNat W), .int .i64 (.ofNat 11), .int .i64 (.ofNat B), wi w0, .nilPtr]) :: dO d wid (Nw W B) :: wO wid ws :: F)] :
    Ok (K.run (tbG W B) ty (N + 6) (.fn 43) [.ptr mid 0, .int .i64 (.ofNat 0)] h) (fun u h' => u = .tup [] ∧ Hp h' (mntO mid d W B W .nilPtr :: dO d wid (Nw W B) :: wO wid ws :: F)) := by
  have ⟨w1, w4, b1, b4⟩ := hg
  rw [u43]; unfold r43
  (repeat first | intro _ | refine Stp.to ?_ | refine Lk.mk' rfl ?_ | (apply Sd.mk; case s => first | exact True.intro | omega | ((repeat' apply And.intro) <;> first | exact True.intro | rfl | omega | (simp only [List.length_set, List.length_modify, List.length_take, List.length_drop, List.length_map, List.length_replicate, List.length_append, List.length_cons, List.length_nil]; omega))) | refine Br.l (by first | assumption | omega) ?_ | refine Br.r (by first | assumption | omega) ?_)
  refine ok_loop (fun k vs h => k ≤ W ∧ vs = [.ptr mid 0] ∧ Hp h (mntO mid d W B k .nilPtr :: dO d wid (Nw W B) :: wO wid ws :: F)) (fun k => W - k) 0 (by show W - 0 < 1000000; omega) ⟨by omega, rfl, Hp.to⟩ ?_
  rintro self k vs h ⟨hk, rfl, hp⟩ ih
  rcases Nat.lt_or_eq_of_le hk with hk | hkn
  · (repeat first | intro _ | refine Stp.to ?_ | refine Lk.mk' rfl ?_ | (apply Sd.mk; case s => first | exact True.intro | omega | ((repeat' apply And.intro) <;> first | exact True.intro | rfl | omega | (simp only [List.length_set, List.length_modify, List.length_take, List.length_drop, List.length_map, List.length_replicate, List.length_append, List.length_cons, List.length_nil]; omega))) | refine Br.l (by first | assumption | omega) ?_ | refine Br.r (by first | assumption | omega) ?_)
    refine ok_call (p17 (N := N + 1) hg hk (hp := Hp.pk (id := d) hp)) fun v h' hr => ?_
    obtain ⟨rid, rfl, hr⟩ := hr
    (repeat first | intro _ | refine Stp.to ?_ | refine Lk.mk' rfl ?_ | (apply Sd.mk; case s => first | exact True.intro | omega | ((repeat' apply And.intro) <;> first | exact True.intro | rfl | omega | (simp only [List.length_set, List.length_modify, List.length_take, List.length_drop, List.length_map, List.length_replicate, List.length_append, List.length_cons, List.length_nil]; omega))) | refine Br.l (by first | assumption | omega) ?_ | refine Br.r (by first | assumption | omega) ?_)
    refine ok_call (p70 (N := N + 1) (w := k) hg hk hl (hz k hk) (hp := (Hp.to : Hp h' (runO rid d W B k :: dO d wid (Nw W B) :: wO wid ws :: mntO mid d W B k .nilPtr :: F)))) fun v h' hr => ?_
    obtain ⟨rfl, hr⟩ := hr
    (repeat first | intro _ | refine Stp.to ?_ | refine Lk.mk' rfl ?_ | (apply Sd.mk; case s => first | exact True.intro | omega | ((repeat' apply And.intro) <;> first | exact True.intro | rfl | omega | (simp only [List.length_set, List.length_modify, List.length_take, List.length_drop, List.length_map, List.length_replicate, List.length_append, List.length_cons, List.length_nil]; omega))) | refine Br.l (by first | assumption | omega) ?_ | refine Br.r (by first | assumption | omega) ?_)
    refine ih (k + 1) _ _ (by omega) ⟨by omega, rfl, ?_⟩
    unfold mntO
    rw [show ((k + 1 : Nat) : Int) = (k : Int) + ((1 : Nat) : Int) by simp]
    exact Hp.to
  · rw [hkn] at hp
    (repeat first | intro _ | refine Stp.to ?_ | refine Lk.mk' rfl ?_ | (apply Sd.mk; case s => first | exact True.intro | omega | ((repeat' apply And.intro) <;> first | exact True.intro | rfl | omega | (simp only [List.length_set, List.length_modify, List.length_take, List.length_drop, List.length_map, List.length_replicate, List.length_append, List.length_cons, List.length_nil]; omega))) | refine Br.l (by first | assumption | omega) ?_ | refine Br.r (by first | assumption | omega) ?_)
    exact ⟨rfl, Hp.to⟩
theorem p12 (hg : Geo W B) [hp : Hp h (dO d wid (Nw W B) :: wO wid ((fmtL W B).map fresh) :: F)] :
    Ok (K.run (tbG W B) ty (N + 7) (.fn 12) [.ptr d 0] h) (fun u h' => ∃ mid, u = .tup [.ptr mid 0, .int .i64 (.ofNat 0)] ∧ Hp h' (mntO mid d W B W .nilPtr :: dO d wid (Nw W B) :: wO wid ((fmtL W B).map fresh) :: F)) := by
  have ⟨w1, w4, b1, b4⟩ := hg
  have hN : Nw W B = 456 + 208 * W + 8 * B := rfl
  have hl : (fmtL W B).length = Nw W B := by simp [fmtL, Nw]
  have hs : ((fmtL W B).map fresh).map Wd.seen = fmtL W B := by
    rw [List.map_map]
    exact List.map_id _
  rw [u12]; unfold r12
  (repeat first | intro _ | refine Stp.to ?_ | refine Lk.mk' rfl ?_ | (apply Sd.mk; case s => first | exact True.intro | omega | ((repeat' apply And.intro) <;> first | exact True.intro | rfl | omega | (simp only [List.length_set, List.length_modify, List.length_take, List.length_drop, List.length_map, List.length_replicate, List.length_append, List.length_cons, List.length_nil]; omega))) | refine Br.l (by first | assumption | omega) ?_ | refine Br.r (by first | assumption | omega) ?_)
  refine ok_call (p42 (N := N + 3) (by rw [List.length_map, hl]) (by omega) (by omega)) fun v h' hr => ?_
  obtain ⟨sid, rfl, hr⟩ := hr
  rw [hs] at hr
  (repeat first | intro _ | refine Stp.to ?_ | refine Lk.mk' rfl ?_ | (apply Sd.mk; case s => first | exact True.intro | omega | ((repeat' apply And.intro) <;> first | exact True.intro | rfl | omega | (simp only [List.length_set, List.length_modify, List.length_take, List.length_drop, List.length_map, List.length_replicate, List.length_append, List.length_cons, List.length_nil]; omega))) | refine Br.l (by first | assumption | omega) ?_ | refine Br.r (by first | assumption | omega) ?_)
  refine ok_call (p41 (N := N + 4) hg rfl) fun v h' hr => ?_
  obtain ⟨rfl, hr⟩ := hr
  (repeat first | intro _ | refine Stp.to ?_ | refine Lk.mk' rfl ?_ | (apply Sd.mk; case s => first | exact True.intro | omega | ((repeat' apply And.intro) <;> first | exact True.intro | rfl | omega | (simp only [List.length_set, List.length_modify, List.length_take, List.length_drop, List.length_map, List.length_replicate, List.length_append, List.length_cons, List.length_nil]; omega))) | refine Br.l (by first | assumption | omega) ?_ | refine Br.r (by first | assumption | omega) ?_)
  rename_i mid h9 hp9
  have hz : ∀ w, w < W → (((fmtL W B).map fresh).getD (264 + 208 * w) default).seen = 0 := by
    intro w hw
    have : 208 * w + 208 ≤ 208 * W := by omega
    rw [getD_map _ _ _ (by omega)]
    show (fmtL W B).getD (264 + 208 * w) default = 0
    rw [fm_at hg, if_neg (by omega), if_neg (by omega), if_neg (by omega), if_neg (by omega), if_neg (by omega), if_neg (by omega), if_neg (by omega), if_neg (by omega)]
  refine ok_call (p43 (N := N) (ws := (fmtL W B).map fresh) (w0 := 0) hg (by rw [List.length_map, hl]) hz (hp := (Hp.to : Hp h9 (.a mid (.c [.ptr d 0, .int .i64 (.ofNat W), .int .i64 (.ofNat 11), .int .i64 (.ofNat B), wi 0, .nilPtr]) :: dO d wid (Nw W B) :: wO wid ((fmtL W B).map fresh) :: F)))) fun v h' hr => ?_
  obtain ⟨rfl, hr⟩ := hr
  (repeat first | intro _ | refine Stp.to ?_ | refine Lk.mk' rfl ?_ | (apply Sd.mk; case s => first | exact True.intro | omega | ((repeat' apply And.intro) <;> first | exact True.intro | rfl | omega | (simp only [List.length_set, List.length_modify, List.length_take, List.length_drop, List.length_map, List.length_replicate, List.length_append, List.length_cons, List.length_nil]; omega))) | refine Br.l (by first | assumption | omega) ?_ | refine Br.r (by first | assumption | omega) ?_)
  exact ⟨mid, rfl, Hp.to⟩
theorem p13 {mid w : Nat} [hp : Hp h (mntO mid d W B w .nilPtr :: F)] : Ok (K.run (tbG W B) ty (N + 2) (.fn 13) [.ptr mid 0] h) (fun u h' => u = .int .i64 (.ofNat 0) ∧ Hp h' (mntO mid d W B w .nilPtr :: F)) := by
  rw [u13]; unfold r13
  (repeat first | intro _ | refine Stp.to ?_ | refine Lk.mk' rfl ?_ | (apply Sd.mk; case s => first | exact True.intro | omega | ((repeat' apply And.intro) <;> first | exact True.intro | rfl | omega | (simp only [List.length_set, List.length_modify, List.length_take, List.length_drop, List.length_map, List.length_replicate, List.length_append, List.length_cons, List.length_nil]; omega))) | refine Br.l (by first | assumption | omega) ?_ | refine Br.r (by first | assumption | omega) ?_)
  exact ⟨rfl, Hp.to⟩
theorem p14 {mid w : Nat} [hp : Hp h (mntO mid d W B w .nilPtr :: F)] : Ok (K.run (tbG W B) ty (N + 2) (.fn 14) [.ptr mid 0] h) (fun u h' => u = .agg (gL W B) ∧ Hp h' (mntO mid d W B w .nilPtr :: F)) := by
  rw [u14]; unfold r14
  (repeat first | intro _ | refine Stp.to ?_ | refine Lk.mk' rfl ?_ | (apply Sd.mk; case s => first | exact True.intro | omega | ((repeat' apply And.intro) <;> first | exact True.intro | rfl | omega | (simp only [List.length_set, List.length_modify, List.length_take, List.length_drop, List.length_map, List.length_replicate, List.length_append, List.length_cons, List.length_nil]; omega))) | refine Br.l (by first | assumption | omega) ?_ | refine Br.r (by first | assumption | omega) ?_)
  exact ⟨rfl, Hp.to⟩
end
end YtbigljebnajniabGreatMfM
