/- What a server says of itself. -/
import Derived.Test.YthlpjeoddenioaaGreatDoorSfSrv
namespace YthlpjeoddenioaaGreatDoorSfM
open Go Am
set_option maxRecDepth 100000
section
variable {L F r1 r2 : List As} {h : H} {Q : AV → H → Prop} {f : AV → H → K.KR} {N d wid n sid wl did mid W : Nat}
abbrev sO (sid d wl did W mid : Nat) : As := .a sid (.c [.ptr d 0, .slice wl 0 W 2, .slice did 0 W 27, .nilSlice, .map mid, .int .i64 (.ofNat 0)])
abbrev dgO (did W : Nat) : As := .a did (.c ((List.replicate W 0).flatMap eK))
theorem p11 [hp : Hp h (sO sid d wl did W mid :: F)] : Ok (K.run tbS ty (N + 1) (.fn 11) [.ptr sid 0] h) (fun u h' => u = .int .i64 (.ofNat W) ∧ Hp h' (sO sid d wl did W mid :: F)) := by
  rw [u11]; unfold r11
  (repeat first | intro _ | refine Stp.to ?_ | refine Lk.mk' rfl ?_ | (apply Sd.mk; case s => first | exact True.intro | omega | ((repeat' apply And.intro) <;> first | exact True.intro | rfl | omega | (simp only [ll]; omega))) | refine Br.l (by first | assumption | omega) ?_ | refine Br.r (by first | assumption | omega) ?_)
  exact ⟨rfl, Hp.to⟩
theorem p12 [hp : Hp h (sO sid d wl did W mid :: F)] : Ok (K.run tbS ty (N + 1) (.fn 12) [.ptr sid 0] h) (fun u h' => u = .int .i64 (.ofNat 0) ∧ Hp h' (sO sid d wl did W mid :: F)) := by
  rw [u12]; unfold r12
  (repeat first | intro _ | refine Stp.to ?_ | refine Lk.mk' rfl ?_ | (apply Sd.mk; case s => first | exact True.intro | omega | ((repeat' apply And.intro) <;> first | exact True.intro | rfl | omega | (simp only [ll]; omega))) | refine Br.l (by first | assumption | omega) ?_ | refine Br.r (by first | assumption | omega) ?_)
  exact ⟨rfl, Hp.to⟩
theorem p13 {i : Nat} (hi : i < W) [hp : Hp h (sO sid d wl did W mid :: dgO did W :: F)] : Ok (K.run tbS ty (N + 1) (.fn 13) [.ptr sid 0, .int .i64 (.ofNat i)] h) (fun u h' => u = .int .i64 (.ofNat 0) ∧ Hp h' (sO sid d wl did W mid :: dgO did W :: F)) := by
  rw [u13]; unfold r13
  (repeat first | intro _ | refine Stp.to ?_ | refine Lk.mk' rfl ?_ | (apply Sd.mk; case s => first | exact True.intro | omega | ((repeat' apply And.intro) <;> first | exact True.intro | rfl | omega | (simp only [ll]; omega))) | refine Br.l (by first | assumption | omega) ?_ | refine Br.r (by first | assumption | omega) ?_)
  refine ⟨?_, Hp.to⟩
  simp [List.getElem?_replicate, hi]
end
end YthlpjeoddenioaaGreatDoorSfM
