/- The device as a whole. -/
import Derived.Test.YthlpjeoddenioaaGreatDoorSfDev3
namespace YthlpjeoddenioaaGreatDoorSfM
open Go Am
set_option maxRecDepth 100000
def gEvict (w : Wd) : Wd := (w.sSure w.seen).sMarks false false false 0
def gFlush (w : Wd) : Wd := w.sMarks true true false w.seen
def gFence (w : Wd) : Wd := if w.flushed = true then (((w.sSure w.value).sMarks false false false 0).sLoose w.again).sAgain w.again else w
theorem gFence_pos (w : Wd) (h : w.flushed = true) : gFence w = (((w.sSure w.value).sMarks false false false 0).sLoose w.again).sAgain w.again := if_pos h
theorem gFence_neg (w : Wd) (h : ¬ w.flushed = true) : gFence w = w := if_neg h
theorem set_same {α : Type} [Inhabited α] (xs : List α) (i : Nat) : xs.set i (xs.getD i default) = xs := by
  have := set_mod xs i id
  rw [List.modify_id] at this
  exact this
section
variable {L F r1 r2 : List As} {h : H} {Q : AV → H → Prop} {f : AV → H → K.KR} {N d wid n : Nat} {ws : List Wd} {x y : Int} {i v : Nat} {s s' : Prop} {W B : Nat}
theorem p28 [hp : Hp h (dO d wid n :: wO wid ws :: F)] (hi : i < n / 8) (hl : n = ws.length) (hn : n ≤ 65536) :
    Ok (K.run tbS ty (N + 6) (.fn 28) [.ptr d 0, .int .i64 i] h) (fun u h' => u = .int .i64 (.ofNat 0) ∧ Hp h' (dO d wid n :: wO wid (lm gEvict (i * 8) 8 ws) :: F)) := by
  rw [u28]; unfold r28
  (repeat first | intro _ | refine Stp.to ?_ | refine Lk.mk' rfl ?_ | (apply Sd.mk; case s => first | exact True.intro | omega | ((repeat' apply And.intro) <;> first | exact True.intro | rfl | omega | (simp only [ll]; omega))) | refine Br.l (by first | assumption | omega) ?_ | refine Br.r (by first | assumption | omega) ?_)
  refine ok_call (p62 (G := gEvict) (fun hp hi => p63 (hp := hp) hi) hi hl hn) ?_
  rintro v h' ⟨rfl, hp'⟩
  (repeat first | intro _ | refine Stp.to ?_ | refine Lk.mk' rfl ?_ | (apply Sd.mk; case s => first | exact True.intro | omega | ((repeat' apply And.intro) <;> first | exact True.intro | rfl | omega | (simp only [ll]; omega))) | refine Br.l (by first | assumption | omega) ?_ | refine Br.r (by first | assumption | omega) ?_)
  exact ⟨rfl, hp'⟩
theorem p33 [hp : Hp h (dO d wid n :: wO wid ws :: F)] (hi : i < n / 8) (hl : n = ws.length) (hn : n ≤ 65536) :
    Ok (K.run tbS ty (N + 6) (.fn 187) [.ptr d 0, .int .i64 i] h) (fun u h' => u = .int .i64 (.ofNat 0) ∧ Hp h' (dO d wid n :: wO wid (lm gFlush (i * 8) 8 ws) :: F)) := by
  rw [u187]; unfold r187
  (repeat first | intro _ | refine Stp.to ?_ | refine Lk.mk' rfl ?_ | (apply Sd.mk; case s => first | exact True.intro | omega | ((repeat' apply And.intro) <;> first | exact True.intro | rfl | omega | (simp only [ll]; omega))) | refine Br.l (by first | assumption | omega) ?_ | refine Br.r (by first | assumption | omega) ?_)
  refine ok_call (p62 (G := gFlush) (fun {N h ws i F} hp hi => p67 (N := N + 1) (hp := hp) hi) hi hl hn) ?_
  rintro v h' ⟨rfl, hp'⟩
  (repeat first | intro _ | refine Stp.to ?_ | refine Lk.mk' rfl ?_ | (apply Sd.mk; case s => first | exact True.intro | omega | ((repeat' apply And.intro) <;> first | exact True.intro | rfl | omega | (simp only [ll]; omega))) | refine Br.l (by first | assumption | omega) ?_ | refine Br.r (by first | assumption | omega) ?_)
  exact ⟨rfl, hp'⟩
theorem p34 [hp : Hp h (dO d wid n :: wO wid ws :: F)] (hl : n = ws.length) (hn : n ≤ 65536) :
    Ok (K.run tbS ty (N + 5) (.fn 188) [.ptr d 0] h) (fun u h' => u = .int .i64 (.ofNat 0) ∧ Hp h' (dO d wid n :: wO wid (lm gFence 0 n ws) :: F)) := by
  rw [u188]; unfold r188
  (repeat first | intro _ | refine Stp.to ?_ | refine Lk.mk' rfl ?_ | (apply Sd.mk; case s => first | exact True.intro | omega | ((repeat' apply And.intro) <;> first | exact True.intro | rfl | omega | (simp only [ll]; omega))) | refine Br.l (by first | assumption | omega) ?_ | refine Br.r (by first | assumption | omega) ?_)
  rename_i b h2 _ mk h1 _ lp h0 hp0
  have hpx : Hp h0 (.a lp (.o (.loop .ready none (K.mkT [11] [.func (.func 82) [] [.ptr b 0]]) 5 mk)) :: wO wid (lm gFence 0 0 ws) :: .a b (.c [.slice wid (0 * 6) n 13]) :: .a mk (.o .marks) :: dO d wid n :: F) := by rw [lm_zero]; exact Hp.to
  refine ok_rng (en := K.mkT [11] [.func (.func 82) [] [.ptr b 0]]) (rr := 5) (d := mk) (R := fun s => s = wO wid (lm gFence 0 n ws) :: .a b (.c [.slice wid (0 * 6) n 13]) :: .a mk (.o .marks) :: dO d wid n :: F) (by kernel_rfl)
    (Ok.mono (p68 (o := 0) (n := n) (V := fun k => lm gFence 0 k ws) (R := fun _ => .a mk (.o .marks) :: dO d wid n :: F) (m := n) rfl (fun k => by rw [lm_length, hl]) (by omega) hn ?_ ?_ (hp := hpx)) ?_) ?_
  · intro k h' hk hw hp
    have hk' : 0 + k < ws.length := by omega
    refine ok_yield (yy5) ?_
    unfold y5
    have hk2 : 0 + k < (lm gFence 0 k ws).length := by rw [lm_length]; exact hk'
    by_cases hf : ((lm gFence 0 k ws).getD (0 + k) default).flushed = true
    · (repeat first | intro _ | refine Stp.to ?_ | refine Lk.mk' rfl ?_ | (apply Sd.mk; case s => first | exact True.intro | omega | ((repeat' apply And.intro) <;> first | exact True.intro | rfl | omega | (simp only [ll]; omega))) | refine Br.l (by first | assumption | omega) ?_ | refine Br.r (by first | assumption | omega) ?_)
      refine ⟨rfl, ?_⟩
      rw [lm_yes _ _ _ _ hw, ← set_mod]
      rw [gFence_pos _ hf]
      exact Hp.to
    · (repeat first | intro _ | refine Stp.to ?_ | refine Lk.mk' rfl ?_ | (apply Sd.mk; case s => first | exact True.intro | omega | ((repeat' apply And.intro) <;> first | exact True.intro | rfl | omega | (simp only [ll]; omega))) | refine Br.l (by first | assumption | omega) ?_ | refine Br.r (by first | assumption | omega) ?_)
      refine ⟨rfl, ?_⟩
      rw [lm_yes _ _ _ _ hw, ← set_mod]
      rw [gFence_neg _ hf, set_same]
      exact Hp.to
  · intro k hk hw
    exact ⟨lm_no _ _ _ _ hw, rfl⟩
  · rintro v h' ⟨rfl, hp⟩
    exact ⟨_, rfl, hp⟩
  · rintro h' s rfl hp
    (repeat first | intro _ | refine Stp.to ?_ | refine Lk.mk' rfl ?_ | (apply Sd.mk; case s => first | exact True.intro | omega | ((repeat' apply And.intro) <;> first | exact True.intro | rfl | omega | (simp only [ll]; omega))) | refine Br.l (by first | assumption | omega) ?_ | refine Br.r (by first | assumption | omega) ?_)
    exact ⟨rfl, Hp.to⟩
theorem p15 [hp : Hp h F] (h8 : 8 ≤ n) (hm : n % 8 = 0) (hn : n ≤ 65536) :
    Ok (K.run tbS ty (N + 1) (.fn 26) [.int .i64 n] h) (fun u h' => ∃ d wid, u = .tup [.ptr d 0, .int .i64 (.ofNat 0)] ∧ Hp h' (dO d wid n :: wO wid (List.replicate n default) :: F)) := by
  rw [u26]; unfold r26
  (repeat first | intro _ | refine Stp.to ?_ | refine Lk.mk' rfl ?_ | (apply Sd.mk; case s => first | exact True.intro | omega | ((repeat' apply And.intro) <;> first | exact True.intro | rfl | omega | (simp only [ll]; omega))) | refine Br.l (by first | assumption | omega) ?_ | refine Br.r (by first | assumption | omega) ?_)
  rename_i wid h1 hp1 d h2 hp2
  refine ⟨d, wid, rfl, ?_⟩
  rw [show wO wid (List.replicate n default) = As.a wid (.c (repl n [w64 0, w64 0, .bool false, .bool false, .bool false, w64 0])) from congrArg (fun l => As.a wid (.c l)) (repl_flat eW default n).symm]
  exact Hp.to
end
end YthlpjeoddenioaaGreatDoorSfM
