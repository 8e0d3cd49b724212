/- The document's functions of a geometry; the words of a new device, in any geometry that may be. -/
import Derived.Test.YthlpjeoddenioaaGreatDoorSfGeo2
namespace YthlpjeoddenioaaGreatDoorSfM
open Go Am
set_option maxRecDepth 100000
section
variable {L F r1 r2 : List As} {h : H} {Q : AV → H → Prop} {f : AV → H → K.KR} {N : Nat} {x y z x' y' z' i i' : Int}
theorem m57 [hp : Hp h F] : Ok (K.run tbS ty (N + 1) (.fn 29) [gI x y z] h) (fun u h' => (u = .bool true ∧ mayI x y z ∨ u = .bool false ∧ ¬ mayI x y z) ∧ Hp h' F) := by
  rw [u29]; unfold r29
  by_cases h1 : 1 ≤ x
  · by_cases h2 : x ≤ 4
    · by_cases h3 : 2 ≤ y
      · by_cases h4 : y ≤ 64
        · by_cases h5 : 2 ≤ z
          · by_cases h6 : z ≤ 512
            · (repeat first | intro _ | refine Stp.to ?_ | refine Lk.mk' rfl ?_ | (apply Sd.mk; case s => first | exact True.intro | omega | ((repeat' apply And.intro) <;> first | exact True.intro | rfl | omega | (simp only [ll]; omega))) | refine Br.l (by first | assumption | omega) ?_ | refine Br.r (by first | assumption | omega) ?_)
              exact ⟨.inl ⟨rfl, ⟨h1, h2⟩, ⟨h3, h4⟩, ⟨h5, h6⟩⟩, Hp.to⟩
            · (repeat first | intro _ | refine Stp.to ?_ | refine Lk.mk' rfl ?_ | (apply Sd.mk; case s => first | exact True.intro | omega | ((repeat' apply And.intro) <;> first | exact True.intro | rfl | omega | (simp only [ll]; omega))) | refine Br.l (by first | assumption | omega) ?_ | refine Br.r (by first | assumption | omega) ?_)
              exact ⟨.inr ⟨rfl, fun q => h6 q.2.2.2⟩, Hp.to⟩
          · (repeat first | intro _ | refine Stp.to ?_ | refine Lk.mk' rfl ?_ | (apply Sd.mk; case s => first | exact True.intro | omega | ((repeat' apply And.intro) <;> first | exact True.intro | rfl | omega | (simp only [ll]; omega))) | refine Br.l (by first | assumption | omega) ?_ | refine Br.r (by first | assumption | omega) ?_)
            exact ⟨.inr ⟨rfl, fun q => h5 q.2.2.1⟩, Hp.to⟩
        · (repeat first | intro _ | refine Stp.to ?_ | refine Lk.mk' rfl ?_ | (apply Sd.mk; case s => first | exact True.intro | omega | ((repeat' apply And.intro) <;> first | exact True.intro | rfl | omega | (simp only [ll]; omega))) | refine Br.l (by first | assumption | omega) ?_ | refine Br.r (by first | assumption | omega) ?_)
          exact ⟨.inr ⟨rfl, fun q => h4 q.2.1.2⟩, Hp.to⟩
      · (repeat first | intro _ | refine Stp.to ?_ | refine Lk.mk' rfl ?_ | (apply Sd.mk; case s => first | exact True.intro | omega | ((repeat' apply And.intro) <;> first | exact True.intro | rfl | omega | (simp only [ll]; omega))) | refine Br.l (by first | assumption | omega) ?_ | refine Br.r (by first | assumption | omega) ?_)
        exact ⟨.inr ⟨rfl, fun q => h3 q.2.1.1⟩, Hp.to⟩
    · (repeat first | intro _ | refine Stp.to ?_ | refine Lk.mk' rfl ?_ | (apply Sd.mk; case s => first | exact True.intro | omega | ((repeat' apply And.intro) <;> first | exact True.intro | rfl | omega | (simp only [ll]; omega))) | refine Br.l (by first | assumption | omega) ?_ | refine Br.r (by first | assumption | omega) ?_)
      exact ⟨.inr ⟨rfl, fun q => h2 q.1.2⟩, Hp.to⟩
  · (repeat first | intro _ | refine Stp.to ?_ | refine Lk.mk' rfl ?_ | (apply Sd.mk; case s => first | exact True.intro | omega | ((repeat' apply And.intro) <;> first | exact True.intro | rfl | omega | (simp only [ll]; omega))) | refine Br.l (by first | assumption | omega) ?_ | refine Br.r (by first | assumption | omega) ?_)
    exact ⟨.inr ⟨rfl, fun q => h1 q.1.1⟩, Hp.to⟩
instance d57 [hp : Hp h L] [nx : NI x x'] [ny : NI y y'] [nz : NI z z'] : Stp (K.callFK (K.run tbS ty N) 29 [.agg [.int .i64 x, .int .i64 y, .int .i64 z]] h f) Q
    (Sd (1 ≤ N) (Br (mayI x' y' z') (∀ h', Hp h' L → Ok (f (.bool true) h') Q) (∀ h', Hp h' L → Ok (f (.bool false) h') Q))) := ⟨fun p => by
  obtain ⟨p1, p⟩ := p
  obtain ⟨N, rfl⟩ : ∃ m, N = m + 1 := ⟨N - 1, by omega⟩
  rw [nx.eq, ny.eq, nz.eq]
  refine ok_call m57 fun v h' hr => ?_
  obtain ⟨⟨rfl, hc⟩ | ⟨rfl, hc⟩, hr⟩ := hr
  · exact p.t hc h' hr
  · exact p.f hc h' hr⟩
instance d90 [hp : Hp h L] : Stp (K.callFK (K.run tbS ty N) 67 [] h f) Q (Sd (1 ≤ N) (∀ h', Hp h' L → Ok (f (.int .i64 (.ofNat 264)) h') Q)) := ⟨fun p => by
  obtain ⟨p1, p⟩ := p
  obtain ⟨N, rfl⟩ : ∃ m, N = m + 1 := ⟨N - 1, by omega⟩
  refine ok_call (R := fun u h' => u = .int .i64 (.ofNat 264) ∧ Hp h' L) ?_ fun v h' hr => by obtain ⟨rfl, hr⟩ := hr; exact p h' hr
  rw [u67]; unfold r67
  (repeat first | intro _ | refine Stp.to ?_ | refine Lk.mk' rfl ?_ | (apply Sd.mk; case s => first | exact True.intro | omega | ((repeat' apply And.intro) <;> first | exact True.intro | rfl | omega | (simp only [ll]; omega))) | refine Br.l (by first | assumption | omega) ?_ | refine Br.r (by first | assumption | omega) ?_)
  exact ⟨rfl, hp⟩⟩
theorem m78 (hm : mayI x y z) [hp : Hp h F] : Ok (K.run tbS ty (N + 2) (.fn 53) [gI x y z] h) (fun u h' => u = .int .i64 (264 + 208 * x) ∧ Hp h' F) := by
  have ⟨⟨h1, h2⟩, ⟨h3, h4⟩, ⟨h5, h6⟩⟩ := hm
  rw [u53]; unfold r53
  (repeat first | intro _ | refine Stp.to ?_ | refine Lk.mk' rfl ?_ | (apply Sd.mk; case s => first | exact True.intro | omega | ((repeat' apply And.intro) <;> first | exact True.intro | rfl | omega | (simp only [ll]; omega))) | refine Br.l (by first | assumption | omega) ?_ | refine Br.r (by first | assumption | omega) ?_)
  exact ⟨by first | rfl | (congr 1; omega) | congr 1, Hp.to⟩
instance d78 [hp : Hp h L] [nx : NI x x'] [ny : NI y y'] [nz : NI z z'] : Stp (K.callFK (K.run tbS ty N) 53 [.agg [.int .i64 x, .int .i64 y, .int .i64 z]] h f) Q
    (Sd (2 ≤ N) (Sd (mayI x' y' z') (∀ h', Hp h' L → Ok (f (.int .i64 (264 + 208 * x')) h') Q))) := ⟨fun p => by
  obtain ⟨p1, p0, p⟩ := p
  obtain ⟨N, rfl⟩ : ∃ m, N = m + 2 := ⟨N - 2, by omega⟩
  rw [nx.eq, ny.eq, nz.eq]
  exact ok_call (m78 p0) fun v h' hr => by obtain ⟨rfl, hr⟩ := hr; exact p h' hr⟩
theorem m58 (hm : mayI x y z) [hp : Hp h F] : Ok (K.run tbS ty (N + 3) (.fn 30) [gI x y z] h) (fun u h' => u = .int .i64 (wordsI x y z) ∧ Hp h' F) := by
  have ⟨⟨h1, h2⟩, ⟨h3, h4⟩, ⟨h5, h6⟩⟩ := hm
  rw [u30]; unfold r30
  (repeat first | intro _ | refine Stp.to ?_ | refine Lk.mk' rfl ?_ | (apply Sd.mk; case s => first | exact True.intro | omega | ((repeat' apply And.intro) <;> first | exact True.intro | rfl | omega | (simp only [ll]; omega))) | refine Br.l (by first | assumption | omega) ?_ | refine Br.r (by first | assumption | omega) ?_)
  refine ⟨?_, Hp.to⟩
  unfold wordsI
  congr 1
  omega
theorem m59 (hm : mayI x y z) [hp : Hp h F] : Ok (K.run tbS ty (N + 3) (.fn 31) [gI x y z] h) (fun u h' => u = .int .i64 (264 + 208 * x) ∧ Hp h' F) := by
  rw [u31]; unfold r31
  (repeat first | intro _ | refine Stp.to ?_ | refine Lk.mk' rfl ?_ | (apply Sd.mk; case s => first | exact True.intro | omega | ((repeat' apply And.intro) <;> first | exact True.intro | rfl | omega | (simp only [ll]; omega))) | refine Br.l (by first | assumption | omega) ?_ | refine Br.r (by first | assumption | omega) ?_)
  exact ⟨rfl, Hp.to⟩
theorem m60 (hm : mayI x y z) [hp : Hp h F] : Ok (K.run tbS ty (N + 3) (.fn 32) [gI x y z] h) (fun u h' => u = .int .i64 (272 + 208 * x) ∧ Hp h' F) := by
  have ⟨⟨h1, h2⟩, ⟨h3, h4⟩, ⟨h5, h6⟩⟩ := hm
  rw [u32]; unfold r32
  (repeat first | intro _ | refine Stp.to ?_ | refine Lk.mk' rfl ?_ | (apply Sd.mk; case s => first | exact True.intro | omega | ((repeat' apply And.intro) <;> first | exact True.intro | rfl | omega | (simp only [ll]; omega))) | refine Br.l (by first | assumption | omega) ?_ | refine Br.r (by first | assumption | omega) ?_)
  exact ⟨by first | rfl | (congr 1; omega) | congr 1, Hp.to⟩
theorem m61 (hm : mayI x y z) (hi : 1 ≤ i ∧ i < y) [hp : Hp h F] : Ok (K.run tbS ty (N + 3) (.fn 33) [gI x y z, .int .i64 i] h) (fun u h' => u = .int .i64 (280 + 208 * x + 16 * i) ∧ Hp h' F) := by
  have ⟨⟨h1, h2⟩, ⟨h3, h4⟩, ⟨h5, h6⟩⟩ := hm
  rw [u33]; unfold r33
  (repeat first | intro _ | refine Stp.to ?_ | refine Lk.mk' rfl ?_ | (apply Sd.mk; case s => first | exact True.intro | omega | ((repeat' apply And.intro) <;> first | exact True.intro | rfl | omega | (simp only [ll]; omega))) | refine Br.l (by first | assumption | omega) ?_ | refine Br.r (by first | assumption | omega) ?_)
  exact ⟨by first | rfl | (congr 1; omega) | congr 1, Hp.to⟩
def Nn (W I B : Nat) : Nat := 280 + 208 * W + 16 * I + 8 * B
def fmtG (W I B : Nat) : List Nat := ((((((((List.replicate (Nn W I B) 0).set 0 32762617960297063).set 1 W).set 2 I).set 3 B).set (264 + 208 * W) 3).set (272 + 208 * W) 1).set (280 + 208 * W + 16) 2).set (280 + 208 * W + 16 + 1) 1
instance d58 {W I B : Nat} {s1 s2 s3 : Prop} [hp : Hp h L] [nx : NN x W s1] [ny : NN y I s2] [nz : NN z B s3] : Stp (K.callFK (K.run tbS ty N) 30 [.agg [.int .i64 x, .int .i64 y, .int .i64 z]] h f) Q
    (Sd (s1 ∧ s2 ∧ s3 ∧ 3 ≤ N) (Sd (mayI W I B) (∀ h', Hp h' L → Ok (f (.int .i64 ((Nn W I B : Nat) : Int)) h') Q))) := ⟨fun p => by
  obtain ⟨⟨p1, p2, p3, p4⟩, p0, p⟩ := p
  obtain ⟨N, rfl⟩ : ∃ m, N = m + 3 := ⟨N - 3, by omega⟩
  rw [nx.eq p1, ny.eq p2, nz.eq p3]
  refine ok_call (m58 p0) fun v h' hr => ?_
  obtain ⟨rfl, hr⟩ := hr
  rw [show wordsI W I B = ((Nn W I B : Nat) : Int) from by unfold wordsI Nn; omega]
  exact p h' hr⟩
instance d59 {W I B : Nat} {s1 s2 s3 : Prop} [hp : Hp h L] [nx : NN x W s1] [ny : NN y I s2] [nz : NN z B s3] : Stp (K.callFK (K.run tbS ty N) 31 [.agg [.int .i64 x, .int .i64 y, .int .i64 z]] h f) Q
    (Sd (s1 ∧ s2 ∧ s3 ∧ 3 ≤ N) (Sd (mayI W I B) (∀ h', Hp h' L → Ok (f (.int .i64 ((264 + 208 * W : Nat) : Int)) h') Q))) := ⟨fun p => by
  obtain ⟨⟨p1, p2, p3, p4⟩, p0, p⟩ := p
  obtain ⟨N, rfl⟩ : ∃ m, N = m + 3 := ⟨N - 3, by omega⟩
  rw [nx.eq p1, ny.eq p2, nz.eq p3]
  refine ok_call (m59 p0) fun v h' hr => ?_
  obtain ⟨rfl, hr⟩ := hr
  rw [show 264 + 208 * (W : Int) = ((264 + 208 * W : Nat) : Int) from by omega]
  exact p h' hr⟩
instance d60 {W I B : Nat} {s1 s2 s3 : Prop} [hp : Hp h L] [nx : NN x W s1] [ny : NN y I s2] [nz : NN z B s3] : Stp (K.callFK (K.run tbS ty N) 32 [.agg [.int .i64 x, .int .i64 y, .int .i64 z]] h f) Q
    (Sd (s1 ∧ s2 ∧ s3 ∧ 3 ≤ N) (Sd (mayI W I B) (∀ h', Hp h' L → Ok (f (.int .i64 ((272 + 208 * W : Nat) : Int)) h') Q))) := ⟨fun p => by
  obtain ⟨⟨p1, p2, p3, p4⟩, p0, p⟩ := p
  obtain ⟨N, rfl⟩ : ∃ m, N = m + 3 := ⟨N - 3, by omega⟩
  rw [nx.eq p1, ny.eq p2, nz.eq p3]
  refine ok_call (m60 p0) fun v h' hr => ?_
  obtain ⟨rfl, hr⟩ := hr
  rw [show 272 + 208 * (W : Int) = ((272 + 208 * W : Nat) : Int) from by omega]
  exact p h' hr⟩
instance d61 {W I B j : Nat} {s1 s2 s3 s4 : Prop} [hp : Hp h L] [nx : NN x W s1] [ny : NN y I s2] [nz : NN z B s3] [ni : NN i j s4] : Stp (K.callFK (K.run tbS ty N) 33 [.agg [.int .i64 x, .int .i64 y, .int .i64 z], .int .i64 i] h f) Q
    (Sd (s1 ∧ s2 ∧ s3 ∧ s4 ∧ 3 ≤ N) (Sd (mayI W I B ∧ 1 ≤ j ∧ j < I) (∀ h', Hp h' L → Ok (f (.int .i64 ((280 + 208 * W + 16 * j : Nat) : Int)) h') Q))) := ⟨fun p => by
  obtain ⟨⟨p1, p2, p3, p4, p5⟩, p0, p⟩ := p
  obtain ⟨N, rfl⟩ : ∃ m, N = m + 3 := ⟨N - 3, by omega⟩
  rw [nx.eq p1, ny.eq p2, nz.eq p3, ni.eq p4]
  refine ok_call (m61 p0.1 (by omega)) fun v h' hr => ?_
  obtain ⟨rfl, hr⟩ := hr
  rw [show 280 + 208 * (W : Int) + 16 * (j : Int) = ((280 + 208 * W + 16 * j : Nat) : Int) from by omega]
  exact p h' hr⟩
theorem m26 {W I B : Nat} (hm : mayI W I B) [hp : Hp h F] : Ok (K.run tbS ty (N + 4) (.fn 14) [gI W I B] h) (fun u h' => ∃ id, u = .slice id 0 (Nn W I B) 3 ∧ Hp h' (.a id (.c ((fmtG W I B).map w64)) :: F)) := by
  have ⟨⟨h1, h2⟩, ⟨h3, h4⟩, ⟨h5, h6⟩⟩ := hm
  have hN : Nn W I B = 280 + 208 * W + 16 * I + 8 * B := rfl
  rw [u14]; unfold r14
  (repeat first | intro _ | refine Stp.to ?_ | refine Lk.mk' rfl ?_ | (apply Sd.mk; case s => first | exact True.intro | omega | ((repeat' apply And.intro) <;> first | exact True.intro | rfl | omega | (simp only [ll]; omega))) | refine Br.l (by first | assumption | omega) ?_ | refine Br.r (by first | assumption | omega) ?_)
  refine ⟨_, rfl, ?_⟩
  have e1 : W % 18446744073709551616 = W := Nat.mod_eq_of_lt (by omega)
  have e2 : B % 18446744073709551616 = B := Nat.mod_eq_of_lt (by omega)
  have e3 : I % 18446744073709551616 = I := Nat.mod_eq_of_lt (by omega)
  rename_i h9 hp9
  rw [e1, e2, e3] at hp9
  unfold fmtG
  exact Hp.to
end
end YthlpjeoddenioaaGreatDoorSfM
