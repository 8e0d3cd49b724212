/- The law. -/
import Derived.Test.YthlpjeoddenioaaGreatDoorSfGeo4
namespace YthlpjeoddenioaaGreatDoorSfM
open Go Am
set_option maxRecDepth 100000
section
variable {L F r1 r2 : List As} {h : H} {Q : AV → H → Prop} {f : AV → H → K.KR} {N W B : Nat} {x y z x' y' z' : Int}
def wOfA (a : Nat) : Nat := 1 + a % 4
def bOfB (b : Nat) : Nat := 22 + b % 39
theorem mayOf (a b : Nat) : mayI (wOfA a) 11 (bOfB b) := by unfold wOfA bOfB mayI; omega
theorem p56 {b : Nat} (hb : b < 256) [hp : Hp h F] : Ok (K.run tbS ty (N + 1) (.fn 43) [.int .u8 (.ofNat 9), .int .u8 (.ofNat b)] h) (fun u h' => u = .agg [wi 1, wi 11, wi ((2 + b % 60 : Nat) : Int)] ∧ Hp h' F) := by
  rw [u43]; unfold r43
  (repeat first | intro _ | refine Stp.to ?_ | refine Lk.mk' rfl ?_ | (apply Sd.mk; case s => first | exact True.intro | omega | ((repeat' apply And.intro) <;> first | exact True.intro | rfl | omega | (simp only [ll]; omega))) | refine Br.l (by first | assumption | omega) ?_ | refine Br.r (by first | assumption | omega) ?_)
  refine ⟨?_, Hp.to⟩
  simp
theorem p25 {b : Nat} (hb : b < 256) [hp : Hp h F] : Ok (K.run tbS ty (N + 2) (.fn 19) [.int .u8 (.ofNat b)] h) (fun u h' => u = .agg [wi 1, wi 11, wi (bOfB b : Int)] ∧ Hp h' F) := by
  have e : ((20 : Nat) + b % 39 : Int) % 256 = ((20 + b % 39 : Nat) : Int) := by omega
  rw [u19]; unfold r19
  (repeat first | intro _ | refine Stp.to ?_ | refine Lk.mk' rfl ?_ | (apply Sd.mk; case s => first | exact True.intro | omega | ((repeat' apply And.intro) <;> first | exact True.intro | rfl | omega | (simp only [ll]; omega))) | refine Br.l (by first | assumption | omega) ?_ | refine Br.r (by first | assumption | omega) ?_)
  rw [show (((20 : Nat) : Int) + (b : Int) % ((39 : Nat) : Int)) % 256 = Int.ofNat (20 + b % 39) by rw [Int.ofNat_eq_natCast]; omega]
  refine ok_call (p56 (N := N) (by omega)) fun v h' hr => ?_
  obtain ⟨rfl, hr⟩ := hr
  (repeat first | intro _ | refine Stp.to ?_ | refine Lk.mk' rfl ?_ | (apply Sd.mk; case s => first | exact True.intro | omega | ((repeat' apply And.intro) <;> first | exact True.intro | rfl | omega | (simp only [ll]; omega))) | refine Br.l (by first | assumption | omega) ?_ | refine Br.r (by first | assumption | omega) ?_)
  refine ⟨?_, Hp.to⟩
  unfold bOfB
  rw [show 2 + (20 + b % 39) % 60 = 22 + b % 39 by omega]
theorem p5 {a b : Nat} (ha : a < 256) (hb : b < 256) [hp : Hp h F] : Ok (K.run tbS ty (N + 3) (.fn 5) [.int .u8 (.ofNat a), .int .u8 (.ofNat b)] h) (fun u h' => u = gI (wOfA a) ((11 : Nat) : Int) (bOfB b) ∧ Hp h' F) := by
  rw [u5]; unfold r5
  (repeat first | intro _ | refine Stp.to ?_ | refine Lk.mk' rfl ?_ | (apply Sd.mk; case s => first | exact True.intro | omega | ((repeat' apply And.intro) <;> first | exact True.intro | rfl | omega | (simp only [ll]; omega))) | refine Br.l (by first | assumption | omega) ?_ | refine Br.r (by first | assumption | omega) ?_)
  refine ok_call (p25 (N := N) hb) fun v h' hr => ?_
  obtain ⟨rfl, hr⟩ := hr
  (repeat first | intro _ | refine Stp.to ?_ | refine Lk.mk' rfl ?_ | (apply Sd.mk; case s => first | exact True.intro | omega | ((repeat' apply And.intro) <;> first | exact True.intro | rfl | omega | (simp only [ll]; omega))) | refine Br.l (by first | assumption | omega) ?_ | refine Br.r (by first | assumption | omega) ?_)
  refine ⟨?_, Hp.to⟩
  unfold gI wOfA
  rw [show ((1 : Nat) : Int) + (a : Int) % ((4 : Nat) : Int) = Int.ofNat (1 + a % 4) by rw [Int.ofNat_eq_natCast]; omega]
  rfl
end
end YthlpjeoddenioaaGreatDoorSfM
