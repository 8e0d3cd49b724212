/- A device is made. -/
import Derived.Test.YthlpjeoddenioaaGreatDoorSfDev5
namespace YthlpjeoddenioaaGreatDoorSfM
open Go Am
set_option maxRecDepth 100000
def fresh (v : Nat) : Wd := ⟨v, v, false, false, false, 0⟩
theorem lm_lines (G : Wd → Wd) (k : Nat) (ws : List Wd) : lm G (k * 8) 8 (lm G 0 (k * 8) ws) = lm G 0 ((k + 1) * 8) ws := by
  apply List.ext_getElem?
  intro j
  rw [lm_get, lm_get, lm_get]
  cases hj : ws[j]? with
  | none => rfl
  | some w =>
    simp only [Option.map_some, Option.some.injEq]
    by_cases h1 : j < k * 8
    · rw [if_neg (fun e => by omega)]
      by_cases hw : w.loose = true
      · rw [if_pos ⟨by omega, by omega, hw⟩, if_pos ⟨by omega, by omega, hw⟩]
      · rw [if_neg (fun e => hw e.2.2), if_neg (fun e => hw e.2.2)]
    · rw [if_neg (fun e : 0 ≤ j ∧ j < 0 + k * 8 ∧ w.loose = true => by omega)]
      by_cases hw : w.loose = true
      · by_cases h2 : j < (k + 1) * 8
        · rw [if_pos ⟨by omega, by omega, hw⟩, if_pos ⟨by omega, by omega, hw⟩]
        · rw [if_neg (fun e => by omega), if_neg (fun e => by omega)]
      · rw [if_neg (fun e => hw e.2.2), if_neg (fun e => hw e.2.2)]
def dv (xs : List Nat) (k : Nat) : List Wd := xs.mapIdx fun j v => if j < k ∧ v ≠ 0 then fStore v default else default
theorem dv_length (xs : List Nat) (k : Nat) : (dv xs k).length = xs.length := by simp [dv]
theorem dv_zero (xs : List Nat) : dv xs 0 = List.replicate xs.length default := by
  apply List.ext_getElem?
  intro j
  unfold dv
  rw [List.getElem?_mapIdx, List.getElem?_replicate]
  by_cases hj : j < xs.length
  · rw [List.getElem?_eq_getElem hj, if_pos hj]; simp
  · rw [List.getElem?_eq_none (by omega), if_neg hj]; rfl
theorem dv_no (xs : List Nat) (k : Nat) (h : xs.getD k default = 0) : dv xs (k + 1) = dv xs k := by
  apply List.ext_getElem?
  intro j
  unfold dv
  rw [List.getElem?_mapIdx, List.getElem?_mapIdx]
  cases hj : xs[j]? with
  | none => rfl
  | some v =>
    simp only [Option.map_some, Option.some.injEq]
    by_cases hk : j = k
    · subst hk
      have : v = 0 := by rw [List.getD_eq_getElem?_getD, hj] at h; exact h
      simp [this]
    · by_cases h2 : j < k
      · by_cases hv : v ≠ 0
        · rw [if_pos ⟨by omega, hv⟩, if_pos ⟨h2, hv⟩]
        · rw [if_neg (fun e => hv e.2), if_neg (fun e => hv e.2)]
      · rw [if_neg (fun e => by omega), if_neg (fun e => by omega)]
theorem dv_yes (xs : List Nat) (k : Nat) (h : ¬ xs.getD k default = 0) : dv xs (k + 1) = (dv xs k).modify k (fStore (xs.getD k default)) := by
  apply List.ext_getElem?
  intro j
  unfold dv
  rw [List.getElem?_modify, List.getElem?_mapIdx, List.getElem?_mapIdx]
  cases hj : xs[j]? with
  | none => simp
  | some v =>
    by_cases hk : k = j
    · subst hk
      have hv : xs.getD k default = v := by rw [List.getD_eq_getElem?_getD, hj]; rfl
      rw [hv] at h ⊢
      simp [h]
    · simp only [Option.map_some, if_neg hk, Option.map_eq_map, id, Option.some.injEq]
      by_cases h2 : j < k
      · by_cases hv : v ≠ 0
        · rw [if_pos ⟨by omega, hv⟩, if_pos ⟨h2, hv⟩]
        · rw [if_neg (fun e => hv e.2), if_neg (fun e => hv e.2)]
      · rw [if_neg (fun e => by omega), if_neg (fun e => by omega)]
theorem dv_end (xs : List Nat) : lm gEvict 0 xs.length (dv xs xs.length) = xs.map fresh := by
  apply List.ext_getElem?
  intro j
  rw [lm_get, List.getElem?_map]
  unfold dv
  rw [List.getElem?_mapIdx]
  by_cases hj : j < xs.length
  · rw [List.getElem?_eq_getElem hj]
    simp only [Option.map_some, Option.some.injEq, Nat.zero_le, true_and, Nat.zero_add, hj]
    by_cases hv : xs[j] = 0
    · rw [if_neg (show ¬ (xs[j] ≠ 0) from fun e => e hv), hv]; rfl
    · rw [if_pos (show xs[j] ≠ 0 from hv)]; rfl
  · rw [List.getElem?_eq_none (by omega)]; rfl
section
variable {L F r1 r2 : List As} {h : H} {Q : AV → H → Prop} {f : AV → H → K.KR} {N W B d wid n : Nat} {ws : List Wd}
theorem p7 {xs : List Nat} {id : Nat} (hx : xs.length = n) (h8 : 8 ≤ n) (hm : n % 8 = 0) (hn : n ≤ 65536) [hp : Hp h (.a id (.c (xs.map w64)) :: F)] :
    Ok (K.run tbS ty (N + 8) (.fn 10) [.slice id 0 n 3] h) (fun u h' => ∃ d wid, u = .ptr d 0 ∧ Hp h' (dO d wid n :: wO wid (xs.map fresh) :: .a id (.c (xs.map w64)) :: F)) := by
  rw [u10]; unfold r10 r10N
  (repeat first | intro _ | refine Stp.to ?_ | refine Lk.mk' rfl ?_ | (apply Sd.mk; case s => first | exact True.intro | omega | ((repeat' apply And.intro) <;> first | exact True.intro | rfl | omega | (simp only [ll]; omega))) | refine Br.l (by first | assumption | omega) ?_ | refine Br.r (by first | assumption | omega) ?_)
  refine ok_call (p15 (N := N + 6) h8 hm hn) ?_
  rintro v h' ⟨d, wid, rfl, hp1⟩
  (repeat first | intro _ | refine Stp.to ?_ | refine Lk.mk' rfl ?_ | (apply Sd.mk; case s => first | exact True.intro | omega | ((repeat' apply And.intro) <;> first | exact True.intro | rfl | omega | (simp only [ll]; omega))) | refine Br.l (by first | assumption | omega) ?_ | refine Br.r (by first | assumption | omega) ?_)
  refine ok_loop (fun k vs h => k ≤ n ∧ vs = [.slice id 0 n 3, .ptr d 0, .int .i64 (.ofNat k)] ∧ Hp h (dO d wid n :: wO wid (dv xs k) :: .a id (.c (xs.map w64)) :: F)) (fun k => n - k) 0 (by show n - 0 < 1000000; omega)
    ⟨by omega, rfl, by rw [dv_zero, hx]; exact hp1⟩ ?_
  rintro self k vs h ⟨hk, rfl, hp⟩ ih
  rcases Nat.lt_or_eq_of_le hk with hk | hkn
  · have hl := dv_length xs k
    by_cases hz : xs.getD k default = 0
    · have hz' : ((xs.getD k default : Nat) : Int) = ((0 : Nat) : Int) := by rw [hz]
      (repeat first | intro _ | refine Stp.to ?_ | refine Lk.mk' rfl ?_ | (apply Sd.mk; case s => first | exact True.intro | omega | ((repeat' apply And.intro) <;> first | exact True.intro | rfl | omega | (simp only [ll]; omega))) | refine Br.l (by first | assumption | omega) ?_ | refine Br.r (by first | assumption | omega) ?_)
      exact ih (k + 1) _ _ (by omega) ⟨by omega, by simp, by rw [dv_no _ _ hz]; exact Hp.to⟩
    · have hz' : ¬ ((xs.getD k default : Nat) : Int) = ((0 : Nat) : Int) := by omega
      (repeat first | intro _ | refine Stp.to ?_ | refine Lk.mk' rfl ?_ | (apply Sd.mk; case s => first | exact True.intro | omega | ((repeat' apply And.intro) <;> first | exact True.intro | rfl | omega | (simp only [ll]; omega))) | refine Br.l (by first | assumption | omega) ?_ | refine Br.r (by first | assumption | omega) ?_)
      exact ih (k + 1) _ _ (by omega) ⟨by omega, by simp, by rw [dv_yes _ _ hz]; exact Hp.to⟩
  · rw [hkn] at hp ⊢
    (repeat first | intro _ | refine Stp.to ?_ | refine Lk.mk' rfl ?_ | (apply Sd.mk; case s => first | exact True.intro | omega | ((repeat' apply And.intro) <;> first | exact True.intro | rfl | omega | (simp only [ll]; omega))) | refine Br.l (by first | assumption | omega) ?_ | refine Br.r (by first | assumption | omega) ?_)
    refine ok_loop (fun k vs h => k ≤ n / 8 ∧ vs = [.slice id 0 n 3, .ptr d 0, .int .i64 (.ofNat k)] ∧ Hp h (dO d wid n :: wO wid (lm gEvict 0 (k * 8) (dv xs n)) :: .a id (.c (xs.map w64)) :: F)) (fun k => n / 8 - k) 0 (by show n / 8 - 0 < 1000000; omega)
      ⟨by omega, rfl, by rw [Nat.zero_mul, lm_zero]; exact hp⟩ ?_
    rintro self k vs h ⟨hk, rfl, hp⟩ ih
    rcases Nat.lt_or_eq_of_le hk with hk | hkn
    · (repeat first | intro _ | refine Stp.to ?_ | refine Lk.mk' rfl ?_ | (apply Sd.mk; case s => first | exact True.intro | omega | ((repeat' apply And.intro) <;> first | exact True.intro | rfl | omega | (simp only [ll]; omega))) | refine Br.l (by first | assumption | omega) ?_ | refine Br.r (by first | assumption | omega) ?_)
      refine ok_call (p28 (N := N + 1) (hp := hp) hk (by rw [lm_length, dv_length, hx]) hn) ?_
      rintro v h2 ⟨rfl, hp2⟩
      rw [lm_lines] at hp2
      (repeat first | intro _ | refine Stp.to ?_ | refine Lk.mk' rfl ?_ | (apply Sd.mk; case s => first | exact True.intro | omega | ((repeat' apply And.intro) <;> first | exact True.intro | rfl | omega | (simp only [ll]; omega))) | refine Br.l (by first | assumption | omega) ?_ | refine Br.r (by first | assumption | omega) ?_)
      exact ih (k + 1) _ _ (by omega) ⟨by omega, by simp, hp2⟩
    · rw [hkn] at hp ⊢
      rw [show n / 8 * 8 = n by omega] at hp
      rw [← hx, dv_end, hx] at hp
      (repeat first | intro _ | refine Stp.to ?_ | refine Lk.mk' rfl ?_ | (apply Sd.mk; case s => first | exact True.intro | omega | ((repeat' apply And.intro) <;> first | exact True.intro | rfl | omega | (simp only [ll]; omega))) | refine Br.l (by first | assumption | omega) ?_ | refine Br.r (by first | assumption | omega) ?_)
      exact ⟨d, wid, rfl, hp⟩
end
end YthlpjeoddenioaaGreatDoorSfM
