/- The device's lines. -/
import Derived.Test.YthlpjeoddenioaaGreatDoorSfDev2
namespace YthlpjeoddenioaaGreatDoorSfM
open Go Am
set_option maxRecDepth 100000
/-- the loose words of a stretch, turned -/
def lm (G : Wd → Wd) (a k : Nat) (ws : List Wd) : List Wd := ws.mapIdx fun j w => if a ≤ j ∧ j < a + k ∧ w.loose = true then G w else w
theorem lm_length (G : Wd → Wd) (a k : Nat) (ws : List Wd) : (lm G a k ws).length = ws.length := by simp [lm]
theorem lm_get (G : Wd → Wd) (a k : Nat) (ws : List Wd) (j : Nat) : (lm G a k ws)[j]? = ws[j]?.map fun w => if a ≤ j ∧ j < a + k ∧ w.loose = true then G w else w := by simp [lm]
theorem lm_zero (G : Wd → Wd) (a : Nat) (ws : List Wd) : lm G a 0 ws = ws := by
  apply List.ext_getElem?
  intro j
  rw [lm_get]
  cases ws[j]? with
  | none => rfl
  | some w => simp; intros; omega
theorem lm_at (G : Wd → Wd) (a k : Nat) (ws : List Wd) : (lm G a k ws).getD (a + k) default = ws.getD (a + k) default := by
  rw [List.getD_eq_getElem?_getD, List.getD_eq_getElem?_getD, lm_get]
  cases ws[a + k]? with
  | none => rfl
  | some w => simp
theorem lm_no (G : Wd → Wd) (a k : Nat) (ws : List Wd) (h : ((lm G a k ws).getD (a + k) default).loose = false) : lm G a (k + 1) ws = lm G a k ws := by
  rw [lm_at, List.getD_eq_getElem?_getD] at h
  apply List.ext_getElem?
  intro j
  rw [lm_get, lm_get]
  by_cases hj : j = a + k
  · subst hj
    cases hw : ws[a + k]? with
    | none => rfl
    | some w =>
      rw [hw] at h
      have h : w.loose = false := h
      simp [h]
  · cases ws[j]? with
    | none => rfl
    | some w =>
      simp only [Option.map_some, Option.some.injEq]
      congr 1
      apply propext
      constructor <;> (rintro ⟨h1, h2, h3⟩; exact ⟨h1, by omega, h3⟩)
theorem lm_yes (G : Wd → Wd) (a k : Nat) (ws : List Wd) (h : ((lm G a k ws).getD (a + k) default).loose = true) : lm G a (k + 1) ws = (lm G a k ws).modify (a + k) G := by
  rw [lm_at, List.getD_eq_getElem?_getD] at h
  apply List.ext_getElem?
  intro j
  rw [lm_get, List.getElem?_modify, lm_get]
  by_cases hj : j = a + k
  · subst hj
    cases hw : ws[a + k]? with
    | none => rfl
    | some w =>
      rw [hw] at h
      have h : w.loose = true := h
      simp [h]
  · cases ws[j]? with
    | none => simp
    | some w =>
      simp only [Option.map_some, Option.some.injEq, if_neg (fun e => hj (Eq.symm e)), id]
      simp only [Option.map_eq_map, Option.map_some, Option.some.injEq, id]
      congr 1
      apply propext
      constructor <;> (rintro ⟨h1, h2, h3⟩; exact ⟨h1, by omega, h3⟩)
section
variable {L F r1 r2 : List As} {h : H} {Q : AV → H → Prop} {f : AV → H → K.KR} {N d wid n : Nat} {ws : List Wd} {x y : Int} {i v : Nat} {s s' : Prop} {W B : Nat}
instance c64 {p : Nat} [hp : Hp h L] [q1 : Pk L wid (wO wid ws) r1] [pl : Pl p 6 i 0] [nx : NN x v s] : Stp (K.callFK (K.run tbS ty N) 52 [.ptr wid p, .int .u64 x] h f) Q
    (Sd (s ∧ 1 ≤ N ∧ i < ws.length) (∀ h', Hp h' (wO wid (ws.set i (((ws.getD i default).sSure v).sMarks false false false 0)) :: r1) → Ok (f (.tup []) h') Q)) := ⟨fun p => by
  obtain ⟨⟨p0, p1, p2⟩, p⟩ := p
  have em : (ws.set i (((ws.getD i default).sSure v).sMarks false false false 0)) = ws.modify i fun w => (w.sSure v).sMarks false false false 0 := set_mod ws i fun w => (w.sSure v).sMarks false false false 0
  rw [em] at p
  obtain ⟨N, rfl⟩ : ∃ m, N = m + 1 := ⟨N - 1, by omega⟩
  rw [nx.eq p0, pl.eq]
  haveI := hp.perm q1.perm
  exact ok_call (p64 p2) fun v h' hr => by obtain ⟨rfl, hr⟩ := hr; exact p h' hr⟩
theorem p63 [hp : Hp h (wO wid ws :: F)] (hi : i < ws.length) :
    Ok (K.run tbS ty (N + 2) (.fn 51) [.ptr wid (i * 6)] h) (fun u h' => u = .tup [] ∧ Hp h' (wO wid (ws.modify i fun w => (w.sSure w.seen).sMarks false false false 0) :: F)) := by
  rw [u51]; unfold r51
  (repeat first | intro _ | refine Stp.to ?_ | refine Lk.mk' rfl ?_ | (apply Sd.mk; case s => first | exact True.intro | omega | ((repeat' apply And.intro) <;> first | exact True.intro | rfl | omega | (simp only [ll]; omega))) | refine Br.l (by first | assumption | omega) ?_ | refine Br.r (by first | assumption | omega) ?_)
  refine ⟨rfl, ?_⟩
  rw [← set_mod]
  exact Hp.to
theorem p40 {v : AV} [IsC v] [hp : Hp h F] : Ok (K.run tbS ty (N + 1) (.fn 66) [v] h) (fun u h' => ∃ b, u = .func (.func 82) [] [.ptr b 0] ∧ Hp h' (.a b (.c [v]) :: F)) := by
  rw [u66]; unfold r66
  (repeat first | intro _ | refine Stp.to ?_ | refine Lk.mk' rfl ?_ | (apply Sd.mk; case s => first | exact True.intro | omega | ((repeat' apply And.intro) <;> first | exact True.intro | rfl | omega | (simp only [ll]; omega))) | refine Br.l (by first | assumption | omega) ?_ | refine Br.r (by first | assumption | omega) ?_)
  exact ⟨_, rfl, Hp.to⟩
instance c40 {v : AV} [z : IsC v] [hp : Hp h L] : Stp (K.callFK (K.run tbS ty N) 66 [v] h f) Q
    (Sd (1 ≤ N) (∀ b h', Hp h' (.a b (.c [v]) :: L) → Ok (f (.func (.func 82) [] [.ptr b 0]) h') Q)) := ⟨fun p => by
  obtain ⟨p1, p⟩ := p
  obtain ⟨N, rfl⟩ : ∃ m, N = m + 1 := ⟨N - 1, by omega⟩
  exact ok_call p40 fun v h' hr => by obtain ⟨b, rfl, hr⟩ := hr; exact p b h' hr⟩
theorem p62 {G : Wd → Wd} {fn : Nat} (hfn : ∀ {N h ws i F}, Hp h (wO wid ws :: F) → i < ws.length → Ok (K.run tbS ty (N + 2) (.fn fn) [.ptr wid (i * 6)] h) fun u h' => u = .tup [] ∧ Hp h' (wO wid (ws.modify i G) :: F))
    [hp : Hp h (dO d wid n :: wO wid ws :: F)] (hi : i < n / 8) (hl : n = ws.length) (hn : n ≤ 65536) :
    Ok (K.run tbS ty (N + 5) (.fn 50) [.ptr d 0, .int .i64 i, .func (.func fn) [] []] h) (fun u h' => u = .int .i64 (.ofNat 0) ∧ Hp h' (dO d wid n :: wO wid (lm G (i * 8) 8 ws) :: F)) := by
  rw [u50]; unfold r50
  (repeat first | intro _ | refine Stp.to ?_ | refine Lk.mk' rfl ?_ | (apply Sd.mk; case s => first | exact True.intro | omega | ((repeat' apply And.intro) <;> first | exact True.intro | rfl | omega | (simp only [ll]; omega))) | refine Br.l (by first | assumption | omega) ?_ | refine Br.r (by first | assumption | omega) ?_)
  rename_i fb h3 _ tg ht _ b h2 _ mk h1 _ lp h0 hp0
  have e8 : (i + 1) * 8 - i * 8 = 8 := by omega
  rw [e8, Nat.zero_add] at hp0
  have hpx : Hp h0 (.a lp (.o (.loop .ready none (K.mkT [5, 32] [.ptr fb 0, .func (.func 82) [] [.ptr b 0]]) 1 mk)) :: wO wid (lm G (i * 8) 0 ws) :: .a b (.c [.slice wid (i * 8 * 6) 8 tg]) :: .a mk (.o .marks) :: .a fb (.c [.func (.func fn) [] []]) :: dO d wid n :: F) := by rw [lm_zero]; exact Hp.to
  refine ok_rng (en := K.mkT [5, 32] [.ptr fb 0, .func (.func 82) [] [.ptr b 0]]) (rr := 1) (d := mk) (R := fun s => s = wO wid (lm G (i * 8) 8 ws) :: .a b (.c [.slice wid (i * 8 * 6) 8 tg]) :: .a mk (.o .marks) :: .a fb (.c [.func (.func fn) [] []]) :: dO d wid n :: F) (by kernel_rfl)
    (Ok.mono (p68 (o := i * 8) (n := 8) (V := fun k => lm G (i * 8) k ws) (R := fun _ => .a mk (.o .marks) :: .a fb (.c [.func (.func fn) [] []]) :: dO d wid n :: F) (m := n) ht (fun k => by rw [lm_length, hl]) (by omega) hn ?_ ?_ (hp := hpx)) ?_) ?_
  · intro k h' hk hw hp
    refine ok_yield (yy1) ?_
    unfold y1
    (repeat first | intro _ | refine Stp.to ?_ | refine Lk.mk' rfl ?_ | (apply Sd.mk; case s => first | exact True.intro | omega | ((repeat' apply And.intro) <;> first | exact True.intro | rfl | omega | (simp only [ll]; omega))) | refine Br.l (by first | assumption | omega) ?_ | refine Br.r (by first | assumption | omega) ?_)
    rename_i hb hpb
    refine ok_call (hfn (Hp.pk (id := wid) hpb) (by rw [lm_length]; omega)) ?_
    rintro v h' ⟨rfl, hp'⟩
    (repeat first | intro _ | refine Stp.to ?_ | refine Lk.mk' rfl ?_ | (apply Sd.mk; case s => first | exact True.intro | omega | ((repeat' apply And.intro) <;> first | exact True.intro | rfl | omega | (simp only [ll]; omega))) | refine Br.l (by first | assumption | omega) ?_ | refine Br.r (by first | assumption | omega) ?_)
    refine ⟨rfl, ?_⟩
    rw [lm_yes _ _ _ _ hw]
    exact Hp.to
  · intro k hk hw
    exact ⟨lm_no _ _ _ _ hw, rfl⟩
  · rintro v h' ⟨rfl, hp⟩
    exact ⟨_, rfl, hp⟩
  · rintro h' s rfl hp
    (repeat first | intro _ | refine Stp.to ?_ | refine Lk.mk' rfl ?_ | (apply Sd.mk; case s => first | exact True.intro | omega | ((repeat' apply And.intro) <;> first | exact True.intro | rfl | omega | (simp only [ll]; omega))) | refine Br.l (by first | assumption | omega) ?_ | refine Br.r (by first | assumption | omega) ?_)
    exact ⟨rfl, Hp.to⟩
end
end YthlpjeoddenioaaGreatDoorSfM
