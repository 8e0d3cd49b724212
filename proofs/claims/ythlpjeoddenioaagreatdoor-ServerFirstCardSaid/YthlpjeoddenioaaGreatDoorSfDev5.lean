/- What is sure, and seen. -/
import Derived.Test.YthlpjeoddenioaaGreatDoorSfDev4
namespace YthlpjeoddenioaaGreatDoorSfM
open Go Am
set_option maxRecDepth 100000
/-- a slice of words that grew -/
def slW (n id : Nat) : AV := match n with | 0 => .nilSlice | n + 1 => .slice id 0 (n + 1) 2
section
variable {L F r1 r2 : List As} {h : H} {Q : AV → H → Prop} {f : AV → H → K.KR} {N d wid n : Nat} {ws : List Wd} {x y : Int} {i v : Nat} {s s' : Prop} {W B : Nat}
theorem p69 {w : Wd} [hp : Hp h F] : Ok (K.run tbS ty (N + 1) (.fn 47) [.agg (eW w)] h) (fun u h' => u = w64 w.seen ∧ Hp h' F) := by
  rw [u47]; unfold r47
  (repeat first | intro _ | refine Stp.to ?_ | refine Lk.mk' rfl ?_ | (apply Sd.mk; case s => first | exact True.intro | omega | ((repeat' apply And.intro) <;> first | exact True.intro | rfl | omega | (simp only [ll]; omega))) | refine Br.l (by first | assumption | omega) ?_ | refine Br.r (by first | assumption | omega) ?_)
  exact ⟨rfl, Hp.to⟩
theorem p38 {of : Wd → Nat} {fn : Nat} (hfn : ∀ {N h F w}, Hp h F → Ok (K.run tbS ty (N + 1) (.fn fn) [.agg (eW w)] h) fun u h' => u = w64 (of w) ∧ Hp h' F)
    [hp : Hp h (dO d wid n :: wO wid ws :: F)] (hl : n = ws.length) (h0 : 0 < n) (hn : n ≤ 65536) :
    Ok (K.run tbS ty (N + 2) (.fn 46) [.ptr d 0, .func (.func fn) [] []] h) (fun u h' => ∃ id, u = .slice id 0 n 2 ∧ Hp h' (.a id (.c ((ws.map of).map w64)) :: dO d wid n :: wO wid ws :: F)) := by
  rw [u46]; unfold r46
  (repeat first | intro _ | refine Stp.to ?_ | refine Lk.mk' rfl ?_ | (apply Sd.mk; case s => first | exact True.intro | omega | ((repeat' apply And.intro) <;> first | exact True.intro | rfl | omega | (simp only [ll]; omega))) | refine Br.l (by first | assumption | omega) ?_ | refine Br.r (by first | assumption | omega) ?_)
  refine ok_loop (fun k vs h => k ≤ n ∧ ((k = 0 ∧ vs = [.func (.func fn) [] [], .nilSlice, .slice wid 0 n 13, .int .i64 n, .int .i64 (.ofNat 0)] ∧ Hp h (dO d wid n :: wO wid ws :: F)) ∨
    (0 < k ∧ ∃ id, vs = [.func (.func fn) [] [], .slice id 0 k 2, .slice wid 0 n 13, .int .i64 n, .int .i64 k] ∧ Hp h (.a id (.c (((ws.map of).take k).map w64)) :: dO d wid n :: wO wid ws :: F)))) (fun k => n - k) 0 (by show n - 0 < 1000000; omega) ⟨by omega, .inl ⟨rfl, rfl, hp⟩⟩ ?_
  rintro self k vs h ⟨hk, ⟨rfl, rfl, hp⟩ | ⟨hk0, id, rfl, hp⟩⟩ ih
  · (repeat first | intro _ | refine Stp.to ?_ | refine Lk.mk' rfl ?_ | (apply Sd.mk; case s => first | exact True.intro | omega | ((repeat' apply And.intro) <;> first | exact True.intro | rfl | omega | (simp only [ll]; omega))) | refine Br.l (by first | assumption | omega) ?_ | refine Br.r (by first | assumption | omega) ?_)
    rename_i hq
    refine ok_call (hfn (w := ws.getD 0 default) hq) ?_
    rintro v h' ⟨rfl, hp'⟩
    (repeat first | intro _ | refine Stp.to ?_ | refine Lk.mk' rfl ?_ | (apply Sd.mk; case s => first | exact True.intro | omega | ((repeat' apply And.intro) <;> first | exact True.intro | rfl | omega | (simp only [ll]; omega))) | refine Br.l (by first | assumption | omega) ?_ | refine Br.r (by first | assumption | omega) ?_)
    rename_i id h3 hp3
    refine ih 1 _ _ (by omega) ⟨by omega, .inr ⟨by omega, id, rfl, ?_⟩⟩
    rw [show (1 : Nat) = 0 + 1 from rfl, take_more _ _ (by simp; omega), getD_map _ _ _ (by omega)]
    exact (Hp.to : Hp h3 (.a id (.c [w64 (of (ws.getD 0 default))]) :: dO d wid n :: wO wid ws :: F))
  · rcases Nat.lt_or_eq_of_le hk with hk | rfl
    · (repeat first | intro _ | refine Stp.to ?_ | refine Lk.mk' rfl ?_ | (apply Sd.mk; case s => first | exact True.intro | omega | ((repeat' apply And.intro) <;> first | exact True.intro | rfl | omega | (simp only [ll]; omega))) | refine Br.l (by first | assumption | omega) ?_ | refine Br.r (by first | assumption | omega) ?_)
      rename_i hq
      refine ok_call (hfn (w := ws.getD k default) hq) ?_
      rintro v h' ⟨rfl, hp'⟩
      (repeat first | intro _ | refine Stp.to ?_ | refine Lk.mk' rfl ?_ | (apply Sd.mk; case s => first | exact True.intro | omega | ((repeat' apply And.intro) <;> first | exact True.intro | rfl | omega | (simp only [ll]; omega))) | refine Br.l (by first | assumption | omega) ?_ | refine Br.r (by first | assumption | omega) ?_)
      rename_i id2 h3 hp3
      refine ih (k + 1) _ _ (by omega) ⟨by omega, .inr ⟨by omega, id2, by simp, ?_⟩⟩
      rw [take_more _ _ (by simp; omega), getD_map _ _ _ (by omega)]
      exact Hp.to
    · (repeat first | intro _ | refine Stp.to ?_ | refine Lk.mk' rfl ?_ | (apply Sd.mk; case s => first | exact True.intro | omega | ((repeat' apply And.intro) <;> first | exact True.intro | rfl | omega | (simp only [ll]; omega))) | refine Br.l (by first | assumption | omega) ?_ | refine Br.r (by first | assumption | omega) ?_)
      refine ⟨_, rfl, ?_⟩
      rw [List.take_of_length_le (by simp; omega)] at hp
      exact hp
theorem p42 [hp : Hp h (dO d wid n :: wO wid ws :: F)] (hl : n = ws.length) (h0 : 0 < n) (hn : n ≤ 65536) :
    Ok (K.run tbS ty (N + 3) (.fn 23) [.ptr d 0] h) (fun u h' => ∃ id, u = .slice id 0 n 2 ∧ Hp h' (.a id (.c ((ws.map Wd.seen).map w64)) :: dO d wid n :: wO wid ws :: F)) := by
  rw [u23]; unfold r23
  (repeat first | intro _ | refine Stp.to ?_ | refine Lk.mk' rfl ?_ | (apply Sd.mk; case s => first | exact True.intro | omega | ((repeat' apply And.intro) <;> first | exact True.intro | rfl | omega | (simp only [ll]; omega))) | refine Br.l (by first | assumption | omega) ?_ | refine Br.r (by first | assumption | omega) ?_)
  refine ok_call (p38 (of := Wd.seen) (fun hp => p69 (hp := hp)) hl h0 hn) ?_
  rintro v h' ⟨id, rfl, hp'⟩
  (repeat first | intro _ | refine Stp.to ?_ | refine Lk.mk' rfl ?_ | (apply Sd.mk; case s => first | exact True.intro | omega | ((repeat' apply And.intro) <;> first | exact True.intro | rfl | omega | (simp only [ll]; omega))) | refine Br.l (by first | assumption | omega) ?_ | refine Br.r (by first | assumption | omega) ?_)
  exact ⟨id, rfl, hp'⟩
end
end YthlpjeoddenioaaGreatDoorSfM
