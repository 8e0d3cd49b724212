/- The device's functions. -/
import Derived.Test.YthlpjeoddenioaaGreatDoorSfFa
namespace YthlpjeoddenioaaGreatDoorSfM
open Go Am
set_option maxRecDepth 100000
structure Wd where
  sure : Nat
  seen : Nat
  loose : Bool
  flushed : Bool
  again : Bool
  value : Nat
  deriving Inhabited
def Wd.sSure (m : Nat) (w : Wd) : Wd := { w with sure := m }
def Wd.sSeen (m : Nat) (w : Wd) : Wd := { w with seen := m }
def Wd.sLoose (b : Bool) (w : Wd) : Wd := { w with loose := b }
def Wd.sFlushed (b : Bool) (w : Wd) : Wd := { w with flushed := b }
def Wd.sAgain (b : Bool) (w : Wd) : Wd := { w with again := b }
def Wd.sMarks (b1 b2 b3 : Bool) (m : Nat) (w : Wd) : Wd := { w with loose := b1, flushed := b2, again := b3, value := m }
abbrev eW (w : Wd) : List AV := [w64 w.sure, w64 w.seen, .bool w.loose, .bool w.flushed, .bool w.again, w64 w.value]
instance es_W : Es eW 6 := ⟨by decide, fun a => ⟨rfl, rfl⟩⟩
instance eu_sure {x : Int} {m : Nat} {s : Prop} [q : NN x m s] : Eu eW 0 [.int .u64 x] (Wd.sSure m) s := ⟨fun h a => ⟨by simp, by rw [q.eq h]; rfl⟩⟩
instance eu_seen {x : Int} {m : Nat} {s : Prop} [q : NN x m s] : Eu eW 1 [.int .u64 x] (Wd.sSeen m) s := ⟨fun h a => ⟨by simp, by rw [q.eq h]; rfl⟩⟩
instance eu_loose (b : Bool) : Eu eW 2 [.bool b] (Wd.sLoose b) True := ⟨fun h a => ⟨by simp, rfl⟩⟩
instance eu_flushed (b : Bool) : Eu eW 3 [.bool b] (Wd.sFlushed b) True := ⟨fun h a => ⟨by simp, rfl⟩⟩
instance eu_again (b : Bool) : Eu eW 4 [.bool b] (Wd.sAgain b) True := ⟨fun h a => ⟨by simp, rfl⟩⟩
instance eu_marks {x : Int} {m : Nat} {s : Prop} {b1 b2 b3 : Bool} [q : NN x m s] : Eu eW 2 [.bool b1, .bool b2, .bool b3, .int .u64 x] (Wd.sMarks b1 b2 b3 m) s := ⟨fun h a => ⟨by simp, by rw [q.eq h]; rfl⟩⟩
/-- a device and its words -/
abbrev dO (d wid n : Nat) : As := .a d (.c [.slice wid 0 n 13])
abbrev wO (wid : Nat) (ws : List Wd) : As := .a wid (.c (ws.flatMap eW))
abbrev fStore (v : Nat) (w : Wd) : Wd := ((w.sSeen v).sLoose true).sAgain true
section
variable {L F r1 r2 : List As} {h : H} {Q : AV → H → Prop} {f : AV → H → K.KR} {N d wid n : Nat} {ws : List Wd} {x y : Int} {i v : Nat} {s s' : Prop} {W B : Nat}
theorem p55 [hp : Hp h (dO d wid n :: F)] (hi : i < n) (hn : n ≤ 65536) :
    Ok (K.run tbS ty (N + 1) (.fn 49) [.ptr d 0, .int .i64 i] h) (fun v h' => v = .tup [.ptr wid (i * 6), .int .i64 (.ofNat 0)] ∧ Hp h' (dO d wid n :: F)) := by
  rw [u49]; unfold r49
  (repeat first | intro _ | refine Stp.to ?_ | refine Lk.mk' rfl ?_ | (apply Sd.mk; case s => first | exact True.intro | omega | ((repeat' apply And.intro) <;> first | exact True.intro | rfl | omega | (simp only [ll]; omega))) | refine Br.l (by first | assumption | omega) ?_ | refine Br.r (by first | assumption | omega) ?_)
  exact ⟨rfl, hp⟩
instance c55 [hp : Hp h L] [q1 : Pk L d (dO d wid n) r1] [nx : NN x i s] : Stp (K.callFK (K.run tbS ty N) 49 [.ptr d 0, .int .i64 x] h f) Q
    (Sd (s ∧ 1 ≤ N ∧ i < n ∧ n ≤ 65536) (∀ h', Hp h' (dO d wid n :: r1) → Ok (f (.tup [.ptr wid (i * 6), .int .i64 (.ofNat 0)]) h') Q)) := ⟨fun p => by
  obtain ⟨⟨p0, p1, p2, p3⟩, p⟩ := p
  obtain ⟨N, rfl⟩ : ∃ m, N = m + 1 := ⟨N - 1, by omega⟩
  rw [nx.eq p0]
  haveI := hp.perm q1.perm
  exact ok_call (p55 p2 p3) fun v h' hr => by obtain ⟨rfl, hr⟩ := hr; exact p h' hr⟩
theorem p27 [hp : Hp h (dO d wid n :: wO wid ws :: F)] (hi : i < n) (hl : n = ws.length) (hn : n ≤ 65536) :
    Ok (K.run tbS ty (N + 2) (.fn 27) [.ptr d 0, .int .i64 i, .int .u64 v] h) (fun u h' => u = .int .i64 (.ofNat 0) ∧ Hp h' (dO d wid n :: wO wid (ws.modify i (fStore v)) :: F)) := by
  rw [u27]; unfold r27
  (repeat first | intro _ | refine Stp.to ?_ | refine Lk.mk' rfl ?_ | (apply Sd.mk; case s => first | exact True.intro | omega | ((repeat' apply And.intro) <;> first | exact True.intro | rfl | omega | (simp only [ll]; omega))) | refine Br.l (by first | assumption | omega) ?_ | refine Br.r (by first | assumption | omega) ?_)
  refine ⟨rfl, ?_⟩
  rw [← set_mod]
  exact Hp.to
instance c27 [hp : Hp h L] [q1 : Pk L d (dO d wid n) r1] [q2 : Pk r1 wid (wO wid ws) r2] [nx : NN x i s] [ny : NN y v s'] : Stp (K.callFK (K.run tbS ty N) 27 [.ptr d 0, .int .i64 x, .int .u64 y] h f) Q
    (Sd (s ∧ s' ∧ 2 ≤ N ∧ i < n ∧ n = ws.length ∧ n ≤ 65536) (∀ h', Hp h' (dO d wid n :: wO wid (ws.modify i (fStore v)) :: r2) → Ok (f (.int .i64 (.ofNat 0)) h') Q)) := ⟨fun p => by
  obtain ⟨⟨p0, p0', p1, p2, p3, p4⟩, p⟩ := p
  obtain ⟨N, rfl⟩ : ∃ m, N = m + 2 := ⟨N - 2, by omega⟩
  rw [nx.eq p0, ny.eq p0']
  haveI := hp.perm (q1.perm.trans (q2.perm.cons _))
  exact ok_call (p27 p2 p3 p4) fun v h' hr => by obtain ⟨rfl, hr⟩ := hr; exact p h' hr⟩
theorem p30 [hp : Hp h (dO d wid n :: F)] : Ok (K.run tbS ty (N + 1) (.fn 65) [.ptr d 0] h) (fun u h' => u = .int .i64 n ∧ Hp h' (dO d wid n :: F)) := by
  rw [u65]; unfold r65
  (repeat first | intro _ | refine Stp.to ?_ | refine Lk.mk' rfl ?_ | (apply Sd.mk; case s => first | exact True.intro | omega | ((repeat' apply And.intro) <;> first | exact True.intro | rfl | omega | (simp only [ll]; omega))) | refine Br.l (by first | assumption | omega) ?_ | refine Br.r (by first | assumption | omega) ?_)
  exact ⟨rfl, hp⟩
theorem p64 [hp : Hp h (wO wid ws :: F)] (hi : i < ws.length) :
    Ok (K.run tbS ty (N + 1) (.fn 52) [.ptr wid (i * 6), .int .u64 v] h) (fun u h' => u = .tup [] ∧ Hp h' (wO wid (ws.modify i fun w => (w.sSure v).sMarks false false false 0) :: F)) := by
  rw [u52]; unfold r52
  (repeat first | intro _ | refine Stp.to ?_ | refine Lk.mk' rfl ?_ | (apply Sd.mk; case s => first | exact True.intro | omega | ((repeat' apply And.intro) <;> first | exact True.intro | rfl | omega | (simp only [ll]; omega))) | refine Br.l (by first | assumption | omega) ?_ | refine Br.r (by first | assumption | omega) ?_)
  refine ⟨rfl, ?_⟩
  rw [← set_mod]
  exact Hp.to
theorem p67 [hp : Hp h (wO wid ws :: F)] (hi : i < ws.length) :
    Ok (K.run tbS ty (N + 1) (.fn 240) [.ptr wid (i * 6)] h) (fun u h' => u = .tup [] ∧ Hp h' (wO wid (ws.modify i fun w => w.sMarks true true false w.seen) :: F)) := by
  rw [u240]; unfold r240
  (repeat first | intro _ | refine Stp.to ?_ | refine Lk.mk' rfl ?_ | (apply Sd.mk; case s => first | exact True.intro | omega | ((repeat' apply And.intro) <;> first | exact True.intro | rfl | omega | (simp only [ll]; omega))) | refine Br.l (by first | assumption | omega) ?_ | refine Br.r (by first | assumption | omega) ?_)
  refine ⟨rfl, ?_⟩
  rw [← set_mod]
  exact Hp.to
end
end YthlpjeoddenioaaGreatDoorSfM
