/- The device's loose words, gone through. -/
import Derived.Test.YthlpjeoddenioaaGreatDoorSfDev1
namespace YthlpjeoddenioaaGreatDoorSfM
open Go Am
set_option maxRecDepth 100000
section
variable {L F r1 r2 : List As} {h : H} {Q : AV → H → Prop} {f : AV → H → K.KR} {N d wid n : Nat} {ws : List Wd} {x y : Int} {i v : Nat} {s s' : Prop} {W B : Nat}
theorem p68 {V : Nat → List Wd} {R : Nat → List As} {l b o m tg : Nat} {lo : AObj} (ht : tg / 2 = 6) (hW : ∀ k, (V k).length = m) (ho : o + n ≤ m) (hm : m ≤ 65536)
    (hy : ∀ k h, k < n → ((V k).getD (o + k) default).loose = true → Hp h (.a l (.o lo) :: wO wid (V k) :: .a b (.c [.slice wid (o * 6) n tg]) :: R k) →
      Ok (K.run tbS ty N (.yield l) [.ptr wid ((o + k) * 6)] h) fun v h' => v = .bool true ∧ Hp h' (.a l (.o lo) :: wO wid (V (k + 1)) :: .a b (.c [.slice wid (o * 6) n tg]) :: R (k + 1)))
    (hn : ∀ k, k < n → ((V k).getD (o + k) default).loose = false → V (k + 1) = V k ∧ R (k + 1) = R k)
    [hp : Hp h (.a l (.o lo) :: wO wid (V 0) :: .a b (.c [.slice wid (o * 6) n tg]) :: R 0)] :
    Ok (K.run tbS ty (N + 1) (.fn 82) [.yield l, .ptr b 0] h) fun v h' => v = .tup [] ∧ Hp h' (.a l (.o lo) :: wO wid (V n) :: .a b (.c [.slice wid (o * 6) n tg]) :: R n) := by
  rw [u82]; unfold r82
  (repeat first | intro _ | refine Stp.to ?_ | refine Lk.mk' rfl ?_ | (apply Sd.mk; case s => first | exact True.intro | omega | ((repeat' apply And.intro) <;> first | exact True.intro | rfl | omega | (simp only [ll]; omega))) | refine Br.l (by first | assumption | omega) ?_ | refine Br.r (by first | assumption | omega) ?_)
  refine ok_loop (fun k vs h => k ≤ n ∧ vs = [.yield l, .ptr b 0, .int .i64 n, .int .i64 k] ∧ Hp h (.a l (.o lo) :: wO wid (V k) :: .a b (.c [.slice wid (o * 6) n tg]) :: R k)) (fun k => n - k) 0 (by show n - 0 < 1000000; omega) ⟨by omega, rfl, hp⟩ ?_
  rintro self k vs h ⟨hk, rfl, hp⟩ ih
  have hl := hW k
  rcases Nat.lt_or_eq_of_le hk with hk | rfl
  · by_cases hb : ((V k).getD (o + k) default).loose = true
    · (repeat first | intro _ | refine Stp.to ?_ | refine Lk.mk' rfl ?_ | (apply Sd.mk; case s => first | exact True.intro | omega | ((repeat' apply And.intro) <;> first | exact True.intro | rfl | omega | (simp only [ll]; omega))) | refine Br.l (by first | assumption | omega) ?_ | refine Br.r (by first | assumption | omega) ?_)
      rw [← Nat.add_mul]
      refine ok_callY (hy k _ hk hb ‹_›) ?_
      rintro v h' ⟨rfl, hp'⟩
      (repeat first | intro _ | refine Stp.to ?_ | refine Lk.mk' rfl ?_ | (apply Sd.mk; case s => first | exact True.intro | omega | ((repeat' apply And.intro) <;> first | exact True.intro | rfl | omega | (simp only [ll]; omega))) | refine Br.l (by first | assumption | omega) ?_ | refine Br.r (by first | assumption | omega) ?_)
      exact ih (k + 1) _ _ (by omega) ⟨by omega, by simp, hp'⟩
    · obtain ⟨e1, e2⟩ := hn k hk (by simpa using hb)
      (repeat first | intro _ | refine Stp.to ?_ | refine Lk.mk' rfl ?_ | (apply Sd.mk; case s => first | exact True.intro | omega | ((repeat' apply And.intro) <;> first | exact True.intro | rfl | omega | (simp only [ll]; omega))) | refine Br.l (by first | assumption | omega) ?_ | refine Br.r (by first | assumption | omega) ?_)
      exact ih (k + 1) _ _ (by omega) ⟨by omega, by simp, by rw [e1, e2]; exact hp⟩
  · (repeat first | intro _ | refine Stp.to ?_ | refine Lk.mk' rfl ?_ | (apply Sd.mk; case s => first | exact True.intro | omega | ((repeat' apply And.intro) <;> first | exact True.intro | rfl | omega | (simp only [ll]; omega))) | refine Br.l (by first | assumption | omega) ?_ | refine Br.r (by first | assumption | omega) ?_)
    exact ⟨rfl, hp⟩
end
end YthlpjeoddenioaaGreatDoorSfM
