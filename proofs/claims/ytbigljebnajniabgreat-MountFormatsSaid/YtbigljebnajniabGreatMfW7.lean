/- A device is formatted. -/
import Derived.Test.YtbigljebnajniabGreatMfW6
namespace YtbigljebnajniabGreatMfM
open Go Am
set_option maxRecDepth 100000
def fresh (v : Nat) : Wd := ⟨v, v, false, false, false, 0⟩
def stF (xs : List Nat) (k : Nat) (ws : List Wd) : List Wd := ws.mapIdx fun j w => if k ≤ j then fStore (xs.getD j default) w else w
theorem stF_length (xs : List Nat) (k : Nat) (ws : List Wd) : (stF xs k ws).length = ws.length := by simp [stF]
theorem stF_end (xs : List Nat) (k : Nat) (ws : List Wd) (h : ws.length ≤ k) : stF xs k ws = ws := by
  apply List.ext_getElem?
  intro j
  unfold stF
  rw [List.getElem?_mapIdx]
  cases hj : ws[j]? with
  | none => rfl
  | some w =>
    have := (List.getElem?_eq_some_iff.1 hj).1
    simp; omega
theorem stF_step (xs : List Nat) (k : Nat) (ws : List Wd) : stF xs k ws = (stF xs (k + 1) ws).modify k (fStore (xs.getD k default)) := by
  apply List.ext_getElem?
  intro j
  unfold stF
  rw [List.getElem?_modify, List.getElem?_mapIdx, List.getElem?_mapIdx]
  cases hj : ws[j]? with
  | none => simp
  | some w =>
    by_cases hk : k = j
    · subst hk; simp [show ¬ k + 1 ≤ k by omega]
    · simp only [Option.map_some, if_neg hk, Option.map_eq_map, id]
      by_cases h2 : k ≤ j
      · rw [if_pos h2, if_pos (by omega)]
      · rw [if_neg h2, if_neg (by omega)]
theorem lm_lines (G : Wd → Wd) (k : Nat) (ws : List Wd) : lm G (k * 8) 8 (lm G 0 (k * 8) ws) = lm G 0 ((k + 1) * 8) ws := by
  apply List.ext_getElem?
  intro j
  rw [lm_get, lm_get, lm_get]
  cases hj : ws[j]? with
  | none => rfl
  | some w =>
    simp only [Option.map_some, Option.some.injEq]
    by_cases h1 : j < k * 8
    · rw [if_neg (fun e => by omega)]
      by_cases hw : w.loose = true
      · rw [if_pos ⟨by omega, by omega, hw⟩, if_pos ⟨by omega, by omega, hw⟩]
      · rw [if_neg (fun e => hw e.2.2), if_neg (fun e => hw e.2.2)]
    · rw [if_neg (fun e : 0 ≤ j ∧ j < 0 + k * 8 ∧ w.loose = true => by omega)]
      by_cases hw : w.loose = true
      · by_cases h2 : j < (k + 1) * 8
        · rw [if_pos ⟨by omega, by omega, hw⟩, if_pos ⟨by omega, by omega, hw⟩]
        · rw [if_neg (fun e => by omega), if_neg (fun e => by omega)]
      · rw [if_neg (fun e => hw e.2.2), if_neg (fun e => hw e.2.2)]
theorem format_all (xs : List Nat) (ws : List Wd) (h : ws.length = xs.length) : lm gFence 0 xs.length (lm gFlush 0 xs.length (stF xs 0 ws)) = xs.map fresh := by
  apply List.ext_getElem?
  intro j
  rw [lm_get, lm_get, List.getElem?_map]
  unfold stF
  rw [List.getElem?_mapIdx]
  by_cases hj : j < xs.length
  · rw [List.getElem?_eq_getElem (by omega), List.getElem?_eq_getElem hj]
    simp only [Option.map_some, Option.some.injEq, Nat.zero_le, true_and, Nat.zero_add, hj, if_true]
    rw [show xs.getD j default = xs[j] by simp [List.getD, hj]]
    rfl
  · rw [List.getElem?_eq_none (by omega), List.getElem?_eq_none (by omega)]; rfl
section
variable {L F r1 r2 : List As} {h : H} {Q : AV → H → Prop} {f : AV → H → K.KR} {N W B d wid n : Nat} {ws : List Wd}
instance c30 [hp : Hp h L] [q1 : Pk L d (dO d wid n) r1] : Stp (K.callFK (K.run (tbG W B) ty N) 30 [.ptr d 0] h f) Q (Sd (1 ≤ N) (∀ h', Hp h' (dO d wid n :: r1) → Ok (f (.int .i64 n) h') Q)) := ⟨fun p => by
  obtain ⟨p1, p⟩ := p
  obtain ⟨N, rfl⟩ : ∃ m, N = m + 1 := ⟨N - 1, by omega⟩
  haveI := hp.perm q1.perm
  exact ok_call p30 fun v h' hr => by obtain ⟨rfl, hr⟩ := hr; exact p h' hr⟩
theorem p31 {v : AV} [IsC v] [hp : Hp h F] : Ok (K.run (tbG W B) ty (N + 1) (.fn 31) [v] h) (fun u h' => ∃ b, u = .func (.func 66) [] [.ptr b 0] ∧ Hp h' (.a b (.c [v]) :: F)) := by
  rw [u31]; unfold r31
  (repeat first | intro _ | refine Stp.to ?_ | refine Lk.mk' rfl ?_ | (apply Sd.mk; case s => first | exact True.intro | omega | ((repeat' apply And.intro) <;> first | exact True.intro | rfl | omega | (simp only [List.length_set, List.length_modify, List.length_take, List.length_drop, List.length_map, List.length_replicate, List.length_append, List.length_cons, List.length_nil]; omega))) | refine Br.l (by first | assumption | omega) ?_ | refine Br.r (by first | assumption | omega) ?_)
  exact ⟨_, rfl, Hp.to⟩
instance c31 {v : AV} [z : IsC v] [hp : Hp h L] : Stp (K.callFK (K.run (tbG W B) ty N) 31 [v] h f) Q
    (Sd (1 ≤ N) (∀ b h', Hp h' (.a b (.c [v]) :: L) → Ok (f (.func (.func 66) [] [.ptr b 0]) h') Q)) := ⟨fun p => by
  obtain ⟨p1, p⟩ := p
  obtain ⟨N, rfl⟩ : ∃ m, N = m + 1 := ⟨N - 1, by omega⟩
  exact ok_call p31 fun v h' hr => by obtain ⟨b, rfl, hr⟩ := hr; exact p b h' hr⟩
theorem p8 (hg : Geo W B) [hp : Hp h (dO d wid (Nw W B) :: wO wid ws :: F)] (hl : Nw W B = ws.length) :
    Ok (K.run (tbG W B) ty (N + 9) (.fn 8) [.ptr d 0, .agg [.int .i64 (.ofNat W), .int .i64 (.ofNat 11), .int .i64 (.ofNat B)]] h) (fun u h' => u = .int .i64 (.ofNat 0) ∧ Hp h' (dO d wid (Nw W B) :: wO wid ((fmtL W B).map fresh) :: F)) := by
  obtain ⟨w1, w4, b1, b4⟩ := id hg
  have hN : Nw W B = 456 + 208 * W + 8 * B := rfl
  rw [u8]; unfold r8
  (repeat first | intro _ | refine Stp.to ?_ | refine Lk.mk' rfl ?_ | (apply Sd.mk; case s => first | exact True.intro | omega | ((repeat' apply And.intro) <;> first | exact True.intro | rfl | omega | (simp only [List.length_set, List.length_modify, List.length_take, List.length_drop, List.length_map, List.length_replicate, List.length_append, List.length_cons, List.length_nil]; omega))) | refine Br.l (by first | assumption | omega) ?_ | refine Br.r (by first | assumption | omega) ?_)
  rename_i db h1 q1 gb h2 q2 eb h3 q3 h4 q4
  refine ok_call (p9 hg) ?_
  rintro v h' ⟨fid, rfl, hp1⟩
  (repeat first | intro _ | refine Stp.to ?_ | refine Lk.mk' rfl ?_ | (apply Sd.mk; case s => first | exact True.intro | omega | ((repeat' apply And.intro) <;> first | exact True.intro | rfl | omega | (simp only [List.length_set, List.length_modify, List.length_take, List.length_drop, List.length_map, List.length_replicate, List.length_append, List.length_cons, List.length_nil]; omega))) | refine Br.l (by first | assumption | omega) ?_ | refine Br.r (by first | assumption | omega) ?_)
  rename_i b3 h5 q5 mk h6 q6 lp h7 q7
  have hx : (fmtL W B).length = Nw W B := by simp [fmtL, Nw]
  have hpx : Hp h7 (.a b3 (.c [.slice fid 0 (Nw W B) 3]) :: .a fid (.c ((fmtL W B).map w64)) :: .a lp (.o (.loop .ready none (K.mkT [2, 4, 5, 26] [.ptr db 0, .ptr eb 0, .slice fid 0 (Nw W B) 3, .func (.func 66) [] [.ptr b3 0]]) 1 mk)) :: .a mk (.o .marks) :: dO d wid (Nw W B) :: wO wid (stF (fmtL W B) (Nw W B) ws) :: .a eb (.c [wi 0]) :: .a db (.c [.ptr d 0]) :: F) := by
    rw [stF_end _ _ _ (by omega)]; exact Hp.to
  refine ok_rng (en := K.mkT [2, 4, 5, 26] [.ptr db 0, .ptr eb 0, .slice fid 0 (Nw W B) 3, .func (.func 66) [] [.ptr b3 0]]) (rr := 1) (d := mk)
    (R := fun s => s = .a b3 (.c [.slice fid 0 (Nw W B) 3]) :: .a fid (.c ((fmtL W B).map w64)) :: .a mk (.o .marks) :: dO d wid (Nw W B) :: wO wid (stF (fmtL W B) 0 ws) :: .a eb (.c [wi 0]) :: .a db (.c [.ptr d 0]) :: F) (noext _)
    (Ok.mono (p66 (n := Nw W B) (xs := fmtL W B) (I := fun k => .a lp (.o (.loop .ready none (K.mkT [2, 4, 5, 26] [.ptr db 0, .ptr eb 0, .slice fid 0 (Nw W B) 3, .func (.func 66) [] [.ptr b3 0]]) 1 mk)) :: .a mk (.o .marks) :: dO d wid (Nw W B) :: wO wid (stF (fmtL W B) k ws) :: .a eb (.c [wi 0]) :: .a db (.c [.ptr d 0]) :: F)
      (by omega) hx.symm ?_ rfl (hp := hpx)) ?_) ?_
  · intro k h' hk hp
    refine ok_yield yy1 ?_
    unfold y1
    have hlen : ∀ k, Nw W B = (stF (fmtL W B) k ws).length := fun k => by rw [stF_length, hl]
    have h3 := hlen (k + 1)
    (repeat first | intro _ | refine Stp.to ?_ | refine Lk.mk' rfl ?_ | (apply Sd.mk; case s => first | exact True.intro | omega | ((repeat' apply And.intro) <;> first | exact True.intro | rfl | omega | (simp only [List.length_set, List.length_modify, List.length_take, List.length_drop, List.length_map, List.length_replicate, List.length_append, List.length_cons, List.length_nil]; omega))) | refine Br.l (by first | assumption | omega) ?_ | refine Br.r (by first | assumption | omega) ?_)
    refine ⟨rfl, ?_⟩
    rw [stF_step]
    exact Hp.to
  · rintro v h' ⟨rfl, hp⟩
    exact ⟨_, rfl, Hp.to⟩
  · rintro h' s rfl hp
    (repeat first | intro _ | refine Stp.to ?_ | refine Lk.mk' rfl ?_ | (apply Sd.mk; case s => first | exact True.intro | omega | ((repeat' apply And.intro) <;> first | exact True.intro | rfl | omega | (simp only [List.length_set, List.length_modify, List.length_take, List.length_drop, List.length_map, List.length_replicate, List.length_append, List.length_cons, List.length_nil]; omega))) | refine Br.l (by first | assumption | omega) ?_ | refine Br.r (by first | assumption | omega) ?_)
    rw [show ((↑(Nw W B) + ↑(8 : Nat) - ↑(1 : Nat)) / ↑(8 : Nat) : Int) = ((Nw W B / 8 : Nat) : Int) by omega]
    refine ok_call (p32 (N := N + 7) (n := Nw W B / 8) (fv := .func (.func 33) [.ptr d 0] []) (I := fun k => dO d wid (Nw W B) :: wO wid (lm gFlush 0 (k * 8) (stF (fmtL W B) 0 ws)) :: .a mk (.o .marks) :: .a eb (.c [wi 0]) :: .a db (.c [.ptr d 0]) :: F)
      (by omega) ?_ (hp := by rw [Nat.zero_mul, lm_zero]; exact Hp.to)) ?_
    · intro k h' g Q' hk hp hq
      refine Stp.to ?_
      refine ok_call (p33 (N := N + 1) (hp := hp) hk (by rw [lm_length, stF_length, hl]) (by omega)) ?_
      rintro v h2 ⟨rfl, hp2⟩
      rw [lm_lines] at hp2
      exact hq h2 hp2
    · rintro v h2 ⟨rfl, hp2⟩
      (repeat first | intro _ | refine Stp.to ?_ | refine Lk.mk' rfl ?_ | (apply Sd.mk; case s => first | exact True.intro | omega | ((repeat' apply And.intro) <;> first | exact True.intro | rfl | omega | (simp only [List.length_set, List.length_modify, List.length_take, List.length_drop, List.length_map, List.length_replicate, List.length_append, List.length_cons, List.length_nil]; omega))) | refine Br.l (by first | assumption | omega) ?_ | refine Br.r (by first | assumption | omega) ?_)
      refine ok_call (p34 (N := N + 3) (ws := lm gFlush 0 (Nw W B / 8 * 8) (stF (fmtL W B) 0 ws)) (n := Nw W B) (wid := wid) (hp := hp2) (by rw [lm_length, stF_length, hl]) (by omega)) ?_
      rintro v h2 ⟨rfl, hp3⟩
      have e : lm gFence 0 (Nw W B) (lm gFlush 0 (Nw W B / 8 * 8) (stF (fmtL W B) 0 ws)) = (fmtL W B).map fresh := by
        rw [show Nw W B / 8 * 8 = Nw W B by omega, ← hx]; exact format_all _ _ (by omega)
      rw [e] at hp3
      (repeat first | intro _ | refine Stp.to ?_ | refine Lk.mk' rfl ?_ | (apply Sd.mk; case s => first | exact True.intro | omega | ((repeat' apply And.intro) <;> first | exact True.intro | rfl | omega | (simp only [List.length_set, List.length_modify, List.length_take, List.length_drop, List.length_map, List.length_replicate, List.length_append, List.length_cons, List.length_nil]; omega))) | refine Br.l (by first | assumption | omega) ?_ | refine Br.r (by first | assumption | omega) ?_)
      exact ⟨rfl, Hp.to⟩
end
end YtbigljebnajniabGreatMfM
