/- Functions of a geometry. -/
import Derived.Test.YtbigljebnajniabGreatMfW8
namespace YtbigljebnajniabGreatMfM
open Go Am
set_option maxRecDepth 100000
section
variable {L F r1 r2 : List As} {h : H} {Q : AV → H → Prop} {f : AV → H → K.KR} {N W B d wid n : Nat} {ws : List Wd} {x y z x' y' z' : Int}
theorem p65 [hp : Hp h F] (hx : ¬ (y ≤ x ∧ x ≤ z) ∨ (y ≤ x ∧ x ≤ z)) : Ok (K.run (tbG W B) ty (N + 1) (.fn 65) [.int .i64 x, .int .i64 y, .int .i64 z] h) (fun u h' => u = .bool (decide (y ≤ x ∧ x ≤ z)) ∧ Hp h' F) := by
  rw [u65]; unfold r65
  by_cases h1 : y ≤ x
  · by_cases h2 : x ≤ z
    · (repeat first | intro _ | refine Stp.to ?_ | refine Lk.mk' rfl ?_ | (apply Sd.mk; case s => first | exact True.intro | omega | ((repeat' apply And.intro) <;> first | exact True.intro | rfl | omega | (simp only [List.length_set, List.length_modify, List.length_take, List.length_drop, List.length_map, List.length_replicate, List.length_append, List.length_cons, List.length_nil]; omega))) | refine Br.l (by first | assumption | omega) ?_ | refine Br.r (by first | assumption | omega) ?_)
      exact ⟨by simp [h1, h2], hp⟩
    · (repeat first | intro _ | refine Stp.to ?_ | refine Lk.mk' rfl ?_ | (apply Sd.mk; case s => first | exact True.intro | omega | ((repeat' apply And.intro) <;> first | exact True.intro | rfl | omega | (simp only [List.length_set, List.length_modify, List.length_take, List.length_drop, List.length_map, List.length_replicate, List.length_append, List.length_cons, List.length_nil]; omega))) | refine Br.l (by first | assumption | omega) ?_ | refine Br.r (by first | assumption | omega) ?_)
      exact ⟨by simp [h2], hp⟩
  · (repeat first | intro _ | refine Stp.to ?_ | refine Lk.mk' rfl ?_ | (apply Sd.mk; case s => first | exact True.intro | omega | ((repeat' apply And.intro) <;> first | exact True.intro | rfl | omega | (simp only [List.length_set, List.length_modify, List.length_take, List.length_drop, List.length_map, List.length_replicate, List.length_append, List.length_cons, List.length_nil]; omega))) | refine Br.l (by first | assumption | omega) ?_ | refine Br.r (by first | assumption | omega) ?_)
    exact ⟨by simp [h1], hp⟩
instance c65 [hp : Hp h L] [nx : NI x x'] [ny : NI y y'] [nz : NI z z'] : Stp (K.callFK (K.run (tbG W B) ty N) 65 [.int .i64 x, .int .i64 y, .int .i64 z] h f) Q
    (Sd (1 ≤ N) (Br (y' ≤ x' ∧ x' ≤ z') (∀ h', Hp h' L → Ok (f (.bool true) h') Q) (∀ h', Hp h' L → Ok (f (.bool false) h') Q))) := ⟨fun p => by
  obtain ⟨p1, p⟩ := p
  obtain ⟨N, rfl⟩ : ∃ m, N = m + 1 := ⟨N - 1, by omega⟩
  rw [nx.eq, ny.eq, nz.eq]
  refine ok_call (p65 (by omega)) fun v h' hr => ?_
  obtain ⟨rfl, hr⟩ := hr
  by_cases hc : y' ≤ x' ∧ x' ≤ z'
  · rw [decide_eq_true hc]; exact p.t hc h' hr
  · rw [decide_eq_false hc]; exact p.f hc h' hr⟩
abbrev rowsL (W B : Nat) : List AV := [w8 1, wi 8, wi 1, w8 2, wi 64, wi 4, w8 5, wi 208, wi W, w8 6, wi 8, wi 1, w8 7, wi 8, wi 1, w8 8, wi 16, wi 11, w8 9, wi 8, wi B]
theorem p45 [hp : Hp h F] : Ok (K.run (tbG W B) ty (N + 1) (.fn 45) [.agg [.int .i64 (.ofNat W), .int .i64 (.ofNat 11), .int .i64 (.ofNat B)]] h) (fun u h' => u = .agg (rowsL W B) ∧ Hp h' F) := by
  rw [u45]; unfold r45
  (repeat first | intro _ | refine Stp.to ?_ | refine Lk.mk' rfl ?_ | (apply Sd.mk; case s => first | exact True.intro | omega | ((repeat' apply And.intro) <;> first | exact True.intro | rfl | omega | (simp only [List.length_set, List.length_modify, List.length_take, List.length_drop, List.length_map, List.length_replicate, List.length_append, List.length_cons, List.length_nil]; omega))) | refine Br.l (by first | assumption | omega) ?_ | refine Br.r (by first | assumption | omega) ?_)
  exact ⟨rfl, Hp.to⟩
instance c45 [hp : Hp h L] : Stp (K.callFK (K.run (tbG W B) ty N) 45 [.agg [.int .i64 (.ofNat W), .int .i64 (.ofNat 11), .int .i64 (.ofNat B)]] h f) Q (Sd (1 ≤ N) (∀ h', Hp h' L → Ok (f (.agg (rowsL W B)) h') Q)) := ⟨fun p => by
  obtain ⟨p1, p⟩ := p
  obtain ⟨N, rfl⟩ : ∃ m, N = m + 1 := ⟨N - 1, by omega⟩
  exact ok_call p45 fun v h' hr => by obtain ⟨rfl, hr⟩ := hr; exact p h' hr⟩
theorem p54 {i : Nat} (hg : Geo W B) [hp : Hp h F] (hi : i < W) : Ok (K.run (tbG W B) ty (N + 2) (.fn 54) [.agg [.int .i64 (.ofNat W), .int .i64 (.ofNat 11), .int .i64 (.ofNat B)], .int .u8 (.ofNat 5), .int .i64 i] h)
    (fun u h' => u = .int .i64 (264 + 208 * i : Nat) ∧ Hp h' F) := by
  obtain ⟨w1, w4, b1, b4⟩ := id hg
  rw [u54]; unfold r54
  (repeat first | intro _ | refine Stp.to ?_ | refine Lk.mk' rfl ?_ | (apply Sd.mk; case s => first | exact True.intro | omega | ((repeat' apply And.intro) <;> first | exact True.intro | rfl | omega | (simp only [List.length_set, List.length_modify, List.length_take, List.length_drop, List.length_map, List.length_replicate, List.length_append, List.length_cons, List.length_nil]; omega))) | refine Br.l (by first | assumption | omega) ?_ | refine Br.r (by first | assumption | omega) ?_)
  refine ok_unroll 999999 ?_
  (repeat first | intro _ | refine Stp.to ?_ | refine Lk.mk' rfl ?_ | (apply Sd.mk; case s => first | exact True.intro | omega | ((repeat' apply And.intro) <;> first | exact True.intro | rfl | omega | (simp only [List.length_set, List.length_modify, List.length_take, List.length_drop, List.length_map, List.length_replicate, List.length_append, List.length_cons, List.length_nil]; omega))) | refine Br.l (by first | assumption | omega) ?_ | refine Br.r (by first | assumption | omega) ?_)
  refine ok_unroll 999998 ?_
  (repeat first | intro _ | refine Stp.to ?_ | refine Lk.mk' rfl ?_ | (apply Sd.mk; case s => first | exact True.intro | omega | ((repeat' apply And.intro) <;> first | exact True.intro | rfl | omega | (simp only [List.length_set, List.length_modify, List.length_take, List.length_drop, List.length_map, List.length_replicate, List.length_append, List.length_cons, List.length_nil]; omega))) | refine Br.l (by first | assumption | omega) ?_ | refine Br.r (by first | assumption | omega) ?_)
  refine ok_unroll 999997 ?_
  (repeat first | intro _ | refine Stp.to ?_ | refine Lk.mk' rfl ?_ | (apply Sd.mk; case s => first | exact True.intro | omega | ((repeat' apply And.intro) <;> first | exact True.intro | rfl | omega | (simp only [List.length_set, List.length_modify, List.length_take, List.length_drop, List.length_map, List.length_replicate, List.length_append, List.length_cons, List.length_nil]; omega))) | refine Br.l (by first | assumption | omega) ?_ | refine Br.r (by first | assumption | omega) ?_)
  exact ⟨by simp, Hp.to⟩
theorem p46 {i : Nat} (hg : Geo W B) [hp : Hp h F] (hi : i < W) : Ok (K.run (tbG W B) ty (N + 3) (.fn 46) [.agg [.int .i64 (.ofNat W), .int .i64 (.ofNat 11), .int .i64 (.ofNat B)], .int .i64 i] h)
    (fun u h' => u = .int .i64 (264 + 208 * i : Nat) ∧ Hp h' F) := by
  rw [u46]; unfold r46
  (repeat first | intro _ | refine Stp.to ?_ | refine Lk.mk' rfl ?_ | (apply Sd.mk; case s => first | exact True.intro | omega | ((repeat' apply And.intro) <;> first | exact True.intro | rfl | omega | (simp only [List.length_set, List.length_modify, List.length_take, List.length_drop, List.length_map, List.length_replicate, List.length_append, List.length_cons, List.length_nil]; omega))) | refine Br.l (by first | assumption | omega) ?_ | refine Br.r (by first | assumption | omega) ?_)
  refine ok_call (p54 hg hi) fun v h' hr => ?_
  obtain ⟨rfl, hr⟩ := hr
  (repeat first | intro _ | refine Stp.to ?_ | refine Lk.mk' rfl ?_ | (apply Sd.mk; case s => first | exact True.intro | omega | ((repeat' apply And.intro) <;> first | exact True.intro | rfl | omega | (simp only [List.length_set, List.length_modify, List.length_take, List.length_drop, List.length_map, List.length_replicate, List.length_append, List.length_cons, List.length_nil]; omega))) | refine Br.l (by first | assumption | omega) ?_ | refine Br.r (by first | assumption | omega) ?_)
  exact ⟨rfl, Hp.to⟩
end
end YtbigljebnajniabGreatMfM
