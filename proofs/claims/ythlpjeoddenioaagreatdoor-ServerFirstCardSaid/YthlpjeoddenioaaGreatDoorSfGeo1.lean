/- Functions of any geometry, on the plain table. -/
import Derived.Test.YthlpjeoddenioaaGreatDoorSfFa
namespace YthlpjeoddenioaaGreatDoorSfM
open Go Am
set_option maxRecDepth 100000
abbrev gI (x y z : Int) : AV := .agg [.int .i64 x, .int .i64 y, .int .i64 z]
def mayI (x y z : Int) : Prop := (1 ≤ x ∧ x ≤ 4) ∧ (2 ≤ y ∧ y ≤ 64) ∧ (2 ≤ z ∧ z ≤ 512)
section
variable {L F r1 r2 : List As} {h : H} {Q : AV → H → Prop} {f : AV → H → K.KR} {N : Nat} {x y z x' y' z' : Int}
theorem m65 [hp : Hp h F] : Ok (K.run tbS ty (N + 1) (.fn 44) [.int .i64 x, .int .i64 y, .int .i64 z] h) (fun u h' => (u = .bool true ∧ (y ≤ x ∧ x ≤ z) ∨ u = .bool false ∧ ¬ (y ≤ x ∧ x ≤ z)) ∧ Hp h' F) := by
  rw [u44]; unfold r44
  by_cases h1 : y ≤ x
  · by_cases h2 : x ≤ z
    · (repeat first | intro _ | refine Stp.to ?_ | refine Lk.mk' rfl ?_ | (apply Sd.mk; case s => first | exact True.intro | omega | ((repeat' apply And.intro) <;> first | exact True.intro | rfl | omega | (simp only [ll]; omega))) | refine Br.l (by first | assumption | omega) ?_ | refine Br.r (by first | assumption | omega) ?_)
      exact ⟨.inl ⟨rfl, h1, h2⟩, hp⟩
    · (repeat first | intro _ | refine Stp.to ?_ | refine Lk.mk' rfl ?_ | (apply Sd.mk; case s => first | exact True.intro | omega | ((repeat' apply And.intro) <;> first | exact True.intro | rfl | omega | (simp only [ll]; omega))) | refine Br.l (by first | assumption | omega) ?_ | refine Br.r (by first | assumption | omega) ?_)
      exact ⟨.inr ⟨rfl, fun q => h2 q.2⟩, hp⟩
  · (repeat first | intro _ | refine Stp.to ?_ | refine Lk.mk' rfl ?_ | (apply Sd.mk; case s => first | exact True.intro | omega | ((repeat' apply And.intro) <;> first | exact True.intro | rfl | omega | (simp only [ll]; omega))) | refine Br.l (by first | assumption | omega) ?_ | refine Br.r (by first | assumption | omega) ?_)
    exact ⟨.inr ⟨rfl, fun q => h1 q.1⟩, hp⟩
instance d65 [hp : Hp h L] [nx : NI x x'] [ny : NI y y'] [nz : NI z z'] : Stp (K.callFK (K.run tbS ty N) 44 [.int .i64 x, .int .i64 y, .int .i64 z] h f) Q
    (Sd (1 ≤ N) (Br (y' ≤ x' ∧ x' ≤ z') (∀ h', Hp h' L → Ok (f (.bool true) h') Q) (∀ h', Hp h' L → Ok (f (.bool false) h') Q))) := ⟨fun p => by
  obtain ⟨p1, p⟩ := p
  obtain ⟨N, rfl⟩ : ∃ m, N = m + 1 := ⟨N - 1, by omega⟩
  rw [nx.eq, ny.eq, nz.eq]
  refine ok_call m65 fun v h' hr => ?_
  obtain ⟨⟨rfl, hc⟩ | ⟨rfl, hc⟩, hr⟩ := hr
  · exact p.t hc h' hr
  · exact p.f hc h' hr⟩
theorem m29 [hp : Hp h F] : Ok (K.run tbS ty (N + 2) (.fn 20) [gI x y z] h) (fun u h' => (u = .bool true ∧ mayI x y z ∨ u = .bool false ∧ ¬ mayI x y z) ∧ Hp h' F) := by
  rw [u20]; unfold r20
  by_cases h1 : 1 ≤ x ∧ x ≤ 4
  · by_cases h2 : 2 ≤ y ∧ y ≤ 64
    · by_cases h3 : 2 ≤ z ∧ z ≤ 512
      · (repeat first | intro _ | refine Stp.to ?_ | refine Lk.mk' rfl ?_ | (apply Sd.mk; case s => first | exact True.intro | omega | ((repeat' apply And.intro) <;> first | exact True.intro | rfl | omega | (simp only [ll]; omega))) | refine Br.l (by first | assumption | omega) ?_ | refine Br.r (by first | assumption | omega) ?_)
        exact ⟨.inl ⟨rfl, h1, h2, h3⟩, Hp.to⟩
      · (repeat first | intro _ | refine Stp.to ?_ | refine Lk.mk' rfl ?_ | (apply Sd.mk; case s => first | exact True.intro | omega | ((repeat' apply And.intro) <;> first | exact True.intro | rfl | omega | (simp only [ll]; omega))) | refine Br.l (by first | assumption | omega) ?_ | refine Br.r (by first | assumption | omega) ?_)
        exact ⟨.inr ⟨rfl, fun q => h3 q.2.2⟩, Hp.to⟩
    · (repeat first | intro _ | refine Stp.to ?_ | refine Lk.mk' rfl ?_ | (apply Sd.mk; case s => first | exact True.intro | omega | ((repeat' apply And.intro) <;> first | exact True.intro | rfl | omega | (simp only [ll]; omega))) | refine Br.l (by first | assumption | omega) ?_ | refine Br.r (by first | assumption | omega) ?_)
      exact ⟨.inr ⟨rfl, fun q => h2 q.2.1⟩, Hp.to⟩
  · (repeat first | intro _ | refine Stp.to ?_ | refine Lk.mk' rfl ?_ | (apply Sd.mk; case s => first | exact True.intro | omega | ((repeat' apply And.intro) <;> first | exact True.intro | rfl | omega | (simp only [ll]; omega))) | refine Br.l (by first | assumption | omega) ?_ | refine Br.r (by first | assumption | omega) ?_)
    exact ⟨.inr ⟨rfl, fun q => h1 q.1⟩, Hp.to⟩
instance d29 [hp : Hp h L] [nx : NI x x'] [ny : NI y y'] [nz : NI z z'] : Stp (K.callFK (K.run tbS ty N) 20 [.agg [.int .i64 x, .int .i64 y, .int .i64 z]] h f) Q
    (Sd (2 ≤ N) (Br (mayI x' y' z') (∀ h', Hp h' L → Ok (f (.bool true) h') Q) (∀ h', Hp h' L → Ok (f (.bool false) h') Q))) := ⟨fun p => by
  obtain ⟨p1, p⟩ := p
  obtain ⟨N, rfl⟩ : ∃ m, N = m + 2 := ⟨N - 2, by omega⟩
  rw [nx.eq, ny.eq, nz.eq]
  refine ok_call m29 fun v h' hr => ?_
  obtain ⟨⟨rfl, hc⟩ | ⟨rfl, hc⟩, hr⟩ := hr
  · exact p.t hc h' hr
  · exact p.f hc h' hr⟩
abbrev rowsI (x y z : Int) : List AV := [w8 1, .int .i64 (.ofNat 8), .int .i64 (.ofNat 1), w8 2, .int .i64 (.ofNat 64), .int .i64 (.ofNat 4), w8 5, .int .i64 (.ofNat 208), .int .i64 x, w8 6, .int .i64 (.ofNat 8), .int .i64 (.ofNat 1), w8 7, .int .i64 (.ofNat 8), .int .i64 (.ofNat 1), w8 8, .int .i64 (.ofNat 16), .int .i64 y, w8 9, .int .i64 (.ofNat 8), .int .i64 z]
theorem m45 [hp : Hp h F] : Ok (K.run tbS ty (N + 1) (.fn 45) [gI x y z] h) (fun u h' => u = .agg (rowsI x y z) ∧ Hp h' F) := by
  rw [u45]; unfold r45
  (repeat first | intro _ | refine Stp.to ?_ | refine Lk.mk' rfl ?_ | (apply Sd.mk; case s => first | exact True.intro | omega | ((repeat' apply And.intro) <;> first | exact True.intro | rfl | omega | (simp only [ll]; omega))) | refine Br.l (by first | assumption | omega) ?_ | refine Br.r (by first | assumption | omega) ?_)
  exact ⟨rfl, Hp.to⟩
instance d45 [hp : Hp h L] : Stp (K.callFK (K.run tbS ty N) 45 [.agg [.int .i64 x, .int .i64 y, .int .i64 z]] h f) Q (Sd (1 ≤ N) (∀ h', Hp h' L → Ok (f (.agg (rowsI x y z)) h') Q)) := ⟨fun p => by
  obtain ⟨p1, p⟩ := p
  obtain ⟨N, rfl⟩ : ∃ m, N = m + 1 := ⟨N - 1, by omega⟩
  exact ok_call m45 fun v h' hr => by obtain ⟨rfl, hr⟩ := hr; exact p h' hr⟩
def wordsI (x y z : Int) : Int := 280 + 208 * x + 16 * y + 8 * z
theorem m16t (hm : mayI x y z) [hp : Hp h F] : Ok (K.run tbS ty (N + 3) (.fn 21) [gI x y z] h) (fun u h' => u = .int .i64 (wordsI x y z) ∧ Hp h' F) := by
  have ⟨⟨h1, h2⟩, ⟨h3, h4⟩, ⟨h5, h6⟩⟩ := hm
  rw [u21]; unfold r21
  (repeat first | intro _ | refine Stp.to ?_ | refine Lk.mk' rfl ?_ | (apply Sd.mk; case s => first | exact True.intro | omega | ((repeat' apply And.intro) <;> first | exact True.intro | rfl | omega | (simp only [ll]; omega))) | refine Br.l (by first | assumption | omega) ?_ | refine Br.r (by first | assumption | omega) ?_)
  iterate 7 (refine ok_unroll _ ?_; (repeat first | intro _ | refine Stp.to ?_ | refine Lk.mk' rfl ?_ | (apply Sd.mk; case s => first | exact True.intro | omega | ((repeat' apply And.intro) <;> first | exact True.intro | rfl | omega | (simp only [ll]; omega))) | refine Br.l (by first | assumption | omega) ?_ | refine Br.r (by first | assumption | omega) ?_))
  refine ok_unroll _ ?_
  (repeat first | intro _ | refine Stp.to ?_ | refine Lk.mk' rfl ?_ | (apply Sd.mk; case s => first | exact True.intro | omega | ((repeat' apply And.intro) <;> first | exact True.intro | rfl | omega | (simp only [ll]; omega))) | refine Br.l (by first | assumption | omega) ?_ | refine Br.r (by first | assumption | omega) ?_)
  refine ⟨?_, Hp.to⟩
  unfold wordsI
  congr 1
  omega
theorem m16f (hm : ¬ mayI x y z) [hp : Hp h F] : Ok (K.run tbS ty (N + 3) (.fn 21) [gI x y z] h) (fun u h' => u = .int .i64 0 ∧ Hp h' F) := by
  rw [u21]; unfold r21
  (repeat first | intro _ | refine Stp.to ?_ | refine Lk.mk' rfl ?_ | (apply Sd.mk; case s => first | exact True.intro | omega | ((repeat' apply And.intro) <;> first | exact True.intro | rfl | omega | (simp only [ll]; omega))) | refine Br.l (by first | assumption | omega) ?_ | refine Br.r (by first | assumption | omega) ?_)
  exact ⟨rfl, Hp.to⟩
instance d16 [hp : Hp h L] [nx : NI x x'] [ny : NI y y'] [nz : NI z z'] : Stp (K.callFK (K.run tbS ty N) 21 [.agg [.int .i64 x, .int .i64 y, .int .i64 z]] h f) Q
    (Sd (3 ≤ N) (Br (mayI x' y' z') (∀ h', Hp h' L → Ok (f (.int .i64 (wordsI x' y' z')) h') Q) (∀ h', Hp h' L → Ok (f (.int .i64 0) h') Q))) := ⟨fun p => by
  obtain ⟨p1, p⟩ := p
  obtain ⟨N, rfl⟩ : ∃ m, N = m + 3 := ⟨N - 3, by omega⟩
  rw [nx.eq, ny.eq, nz.eq]
  by_cases hm : mayI x' y' z'
  · refine ok_call (m16t hm) fun v h' hr => ?_
    obtain ⟨rfl, hr⟩ := hr
    exact p.t hm h' hr
  · refine ok_call (m16f hm) fun v h' hr => ?_
    obtain ⟨rfl, hr⟩ := hr
    exact p.f hm h' hr⟩
end
end YthlpjeoddenioaaGreatDoorSfM
