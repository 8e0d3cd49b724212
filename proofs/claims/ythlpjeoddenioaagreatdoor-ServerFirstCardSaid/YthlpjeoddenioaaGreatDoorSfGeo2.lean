/- Where things lie, in any geometry that may be. -/
import Derived.Test.YthlpjeoddenioaaGreatDoorSfGeo1
namespace YthlpjeoddenioaaGreatDoorSfM
open Go Am
set_option maxRecDepth 100000
section
variable {L F r1 r2 : List As} {h : H} {Q : AV → H → Prop} {f : AV → H → K.KR} {N : Nat} {x y z x' y' z' i i' : Int}
theorem m54a (hm : mayI x y z) (hi : 0 ≤ i ∧ i ≤ x - 1) [hp : Hp h F] : Ok (K.run tbS ty (N + 3) (.fn 22) [gI x y z, .int .u8 (.ofNat 5), .int .i64 i] h) (fun u h' => u = .int .i64 (264 + 208 * i) ∧ Hp h' F) := by
  have ⟨⟨h1, h2⟩, ⟨h3, h4⟩, ⟨h5, h6⟩⟩ := hm
  rw [u22]; unfold r22
  (repeat first | intro _ | refine Stp.to ?_ | refine Lk.mk' rfl ?_ | (apply Sd.mk; case s => first | exact True.intro | omega | ((repeat' apply And.intro) <;> first | exact True.intro | rfl | omega | (simp only [ll]; omega))) | refine Br.l (by first | assumption | omega) ?_ | refine Br.r (by first | assumption | omega) ?_)
  iterate 3 (refine ok_unroll _ ?_; (repeat first | intro _ | refine Stp.to ?_ | refine Lk.mk' rfl ?_ | (apply Sd.mk; case s => first | exact True.intro | omega | ((repeat' apply And.intro) <;> first | exact True.intro | rfl | omega | (simp only [ll]; omega))) | refine Br.l (by first | assumption | omega) ?_ | refine Br.r (by first | assumption | omega) ?_))
  exact ⟨by first | rfl | (congr 1; omega) | congr 1, Hp.to⟩
theorem m54i (hm : mayI x y z) (hi : 0 ≤ i ∧ i ≤ y - 1) [hp : Hp h F] : Ok (K.run tbS ty (N + 3) (.fn 22) [gI x y z, .int .u8 (.ofNat 8), .int .i64 i] h) (fun u h' => u = .int .i64 (280 + 208 * x + 16 * i) ∧ Hp h' F) := by
  have ⟨⟨h1, h2⟩, ⟨h3, h4⟩, ⟨h5, h6⟩⟩ := hm
  rw [u22]; unfold r22
  (repeat first | intro _ | refine Stp.to ?_ | refine Lk.mk' rfl ?_ | (apply Sd.mk; case s => first | exact True.intro | omega | ((repeat' apply And.intro) <;> first | exact True.intro | rfl | omega | (simp only [ll]; omega))) | refine Br.l (by first | assumption | omega) ?_ | refine Br.r (by first | assumption | omega) ?_)
  iterate 6 (refine ok_unroll _ ?_; (repeat first | intro _ | refine Stp.to ?_ | refine Lk.mk' rfl ?_ | (apply Sd.mk; case s => first | exact True.intro | omega | ((repeat' apply And.intro) <;> first | exact True.intro | rfl | omega | (simp only [ll]; omega))) | refine Br.l (by first | assumption | omega) ?_ | refine Br.r (by first | assumption | omega) ?_))
  exact ⟨by first | rfl | (congr 1; omega) | congr 1, Hp.to⟩
theorem m54m (hm : mayI x y z) [hp : Hp h F] : Ok (K.run tbS ty (N + 3) (.fn 22) [gI x y z, .int .u8 (.ofNat 6), .int .i64 (.ofNat 0)] h) (fun u h' => u = .int .i64 (264 + 208 * x) ∧ Hp h' F) := by
  have ⟨⟨h1, h2⟩, ⟨h3, h4⟩, ⟨h5, h6⟩⟩ := hm
  rw [u22]; unfold r22
  (repeat first | intro _ | refine Stp.to ?_ | refine Lk.mk' rfl ?_ | (apply Sd.mk; case s => first | exact True.intro | omega | ((repeat' apply And.intro) <;> first | exact True.intro | rfl | omega | (simp only [ll]; omega))) | refine Br.l (by first | assumption | omega) ?_ | refine Br.r (by first | assumption | omega) ?_)
  iterate 4 (refine ok_unroll _ ?_; (repeat first | intro _ | refine Stp.to ?_ | refine Lk.mk' rfl ?_ | (apply Sd.mk; case s => first | exact True.intro | omega | ((repeat' apply And.intro) <;> first | exact True.intro | rfl | omega | (simp only [ll]; omega))) | refine Br.l (by first | assumption | omega) ?_ | refine Br.r (by first | assumption | omega) ?_))
  exact ⟨by first | rfl | (congr 1; omega) | congr 1, Hp.to⟩
theorem m54b (hm : mayI x y z) [hp : Hp h F] : Ok (K.run tbS ty (N + 3) (.fn 22) [gI x y z, .int .u8 (.ofNat 7), .int .i64 (.ofNat 0)] h) (fun u h' => u = .int .i64 (272 + 208 * x) ∧ Hp h' F) := by
  have ⟨⟨h1, h2⟩, ⟨h3, h4⟩, ⟨h5, h6⟩⟩ := hm
  rw [u22]; unfold r22
  (repeat first | intro _ | refine Stp.to ?_ | refine Lk.mk' rfl ?_ | (apply Sd.mk; case s => first | exact True.intro | omega | ((repeat' apply And.intro) <;> first | exact True.intro | rfl | omega | (simp only [ll]; omega))) | refine Br.l (by first | assumption | omega) ?_ | refine Br.r (by first | assumption | omega) ?_)
  iterate 5 (refine ok_unroll _ ?_; (repeat first | intro _ | refine Stp.to ?_ | refine Lk.mk' rfl ?_ | (apply Sd.mk; case s => first | exact True.intro | omega | ((repeat' apply And.intro) <;> first | exact True.intro | rfl | omega | (simp only [ll]; omega))) | refine Br.l (by first | assumption | omega) ?_ | refine Br.r (by first | assumption | omega) ?_))
  exact ⟨by first | rfl | (congr 1; omega) | congr 1, Hp.to⟩
theorem m54k (hm : mayI x y z) (hi : 0 ≤ i ∧ i ≤ z - 1) [hp : Hp h F] : Ok (K.run tbS ty (N + 3) (.fn 22) [gI x y z, .int .u8 (.ofNat 9), .int .i64 i] h) (fun u h' => u = .int .i64 (280 + 208 * x + 16 * y + 8 * i) ∧ Hp h' F) := by
  have ⟨⟨h1, h2⟩, ⟨h3, h4⟩, ⟨h5, h6⟩⟩ := hm
  rw [u22]; unfold r22
  (repeat first | intro _ | refine Stp.to ?_ | refine Lk.mk' rfl ?_ | (apply Sd.mk; case s => first | exact True.intro | omega | ((repeat' apply And.intro) <;> first | exact True.intro | rfl | omega | (simp only [ll]; omega))) | refine Br.l (by first | assumption | omega) ?_ | refine Br.r (by first | assumption | omega) ?_)
  iterate 7 (refine ok_unroll _ ?_; (repeat first | intro _ | refine Stp.to ?_ | refine Lk.mk' rfl ?_ | (apply Sd.mk; case s => first | exact True.intro | omega | ((repeat' apply And.intro) <;> first | exact True.intro | rfl | omega | (simp only [ll]; omega))) | refine Br.l (by first | assumption | omega) ?_ | refine Br.r (by first | assumption | omega) ?_))
  exact ⟨by first | rfl | (congr 1; omega) | congr 1, Hp.to⟩
end
end YthlpjeoddenioaaGreatDoorSfM
