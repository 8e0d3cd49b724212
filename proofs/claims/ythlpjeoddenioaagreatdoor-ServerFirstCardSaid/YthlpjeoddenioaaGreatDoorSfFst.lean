/- The law ServerFirst. -/
import Derived.Test.YthlpjeoddenioaaGreatDoorSfSrv2
import Derived.Test.YthlpjeoddenioaaGreatDoorSfImg
import Derived.Test.YthlpjeoddenioaaGreatDoorSfSml
namespace YthlpjeoddenioaaGreatDoorSfM
open Go Am
set_option maxRecDepth 100000
section
variable {L F r1 r2 : List As} {h : H} {Q : AV → H → Prop} {f : AV → H → K.KR} {N W B n : Nat}
instance cw4 : Stp (K.callFK (K.run tbS ty N) 4 [] h f) Q (Sd (1 ≤ N) (Ok (f (.bool true) h) Q)) := ⟨fun p => by
  obtain ⟨N, rfl⟩ : ∃ m, N = m + 1 := ⟨N - 1, by have := p.s; omega⟩
  exact .eq (K.callFK_of (kg4 N h)) p.p⟩
theorem lawA {a b c e : Int} {m o i tg : Nat} (hm : 20 < m) (hm2 : m ≤ 9223372036854775807) [hp : Hp h F] : Ok (K.run tbS ty (N + 2) (.fn 3) [.int .u8 a, .int .u8 b, .slice i o m tg, .int .u8 c, .int .u64 e] h) (fun u h' => u = .bool true ∧ Hp h' F) := by
  rw [u3]; unfold r3 r3N
  (repeat first | intro _ | refine Stp.to ?_ | refine Lk.mk' rfl ?_ | (apply Sd.mk; case s => first | exact True.intro | omega | ((repeat' apply And.intro) <;> first | exact True.intro | rfl | omega | (simp only [ll]; omega))) | refine Br.l (by first | assumption | omega) ?_ | refine Br.r (by first | assumption | omega) ?_)
  exact ⟨rfl, hp⟩
def sm (xs : List Nat) (k : Nat) : Bool := (List.range k).any fun i => xs.getD (264 + 208 * i) default != 0
theorem sm_succ (xs : List Nat) (k : Nat) : sm xs (k + 1) = (sm xs k || xs.getD (264 + 208 * k) default != 0) := by
  simp [sm, List.range_succ]
theorem sm_true {xs : List Nat} {k : Nat} (h : sm xs k = true) : ∃ w, w < k ∧ xs.getD (264 + 208 * w) default ≠ 0 := by
  simp only [sm, List.any_eq_true, List.mem_range] at h
  obtain ⟨w, hw, h⟩ := h
  exact ⟨w, hw, by simpa using h⟩
theorem sm_false {xs : List Nat} {k : Nat} (h : sm xs k = false) : ∀ w, w < k → xs.getD (264 + 208 * w) default = 0 := by
  intro w hw
  simp only [sm, List.any_eq_false, List.mem_range] at h
  simpa using h w hw
theorem getD_set_ne (xs : List Nat) (i j v : Nat) (h : i ≠ j) : (xs.set i v).getD j default = xs.getD j default := by
  simp [List.getD, List.getElem?_set, h]
theorem isOf_set {xs : List Nat} {i v : Nat} (h : isOf xs) (hi : 264 ≤ i) : isOf (xs.set i v) := by
  unfold isOf at h ⊢
  rw [List.length_set, getD_set_ne _ _ _ _ (by omega), getD_set_ne _ _ _ _ (by omega), getD_set_ne _ _ _ _ (by omega), getD_set_ne _ _ _ _ (by omega)]
  exact h
theorem lawB {a b c e : Nat} {v : AV} (ha : a < 256) (hb : b < 256) (hc : c < 256) (he : e < 18446744073709551616) (hw : W = wOfA a) (hB : B = bOfB b) {m : Nat} (hm : m ≤ 20) (hl : ∀ g : AV → K.KR, K.lenVK v g = g (.int .i64 (.ofNat m)))
    (h6 : ∀ (h : H) (G : As) (hp : Hp h (G :: F)), Ok (K.run tbS ty (N + 9) (.fn 6) [.agg [.int .i64 W, .int .i64 ((11 : Nat) : Int), .int .i64 B], v, .int .u16 (.ofNat 0)] h) fun u h' => ∃ id, ∃ xs : List Nat, u = .slice id 0 (Nn W 11 B) 3 ∧ xs.length = Nn W 11 B ∧ (∀ x ∈ xs, x < 18446744073709551616) ∧ Hp h' (.a id (.c (xs.map w64)) :: G :: F))
    [hp : Hp h F] : Ok (K.run tbS ty (N + 10) (.fn 3) [.int .u8 (.ofNat a), .int .u8 (.ofNat b), v, .int .u8 (.ofNat c), .int .u64 (.ofNat e)] h) (fun u h' => u = .bool true ∧ Hp h' F) := by
  have hg : mayI W 11 B := by rw [hw, hB]; exact mayOf a b
  have ⟨⟨w1, w4⟩, ⟨i1, i4⟩, ⟨b1, b4⟩⟩ := hg
  have hN : Nn W 11 B = 456 + 208 * W + 8 * B := by unfold Nn; omega
  rw [u3]; unfold r3 r3N
  (repeat first | intro _ | refine Stp.to ?_ | refine Lk.mk' rfl ?_ | (apply Sd.mk; case s => first | exact True.intro | omega | ((repeat' apply And.intro) <;> first | exact True.intro | rfl | omega | (simp only [ll]; omega))) | refine Br.l (by first | assumption | omega) ?_ | refine Br.r (by first | assumption | omega) ?_)
  rw [hl]
  (repeat first | intro _ | refine Stp.to ?_ | refine Lk.mk' rfl ?_ | (apply Sd.mk; case s => first | exact True.intro | omega | ((repeat' apply And.intro) <;> first | exact True.intro | rfl | omega | (simp only [ll]; omega))) | refine Br.l (by first | assumption | omega) ?_ | refine Br.r (by first | assumption | omega) ?_)
  refine ok_call (p5 (N := N + 6) ha hb) fun u h' hr => ?_
  obtain ⟨rfl, hr⟩ := hr
  rw [← hw, ← hB]
  (repeat first | intro _ | refine Stp.to ?_ | refine Lk.mk' rfl ?_ | (apply Sd.mk; case s => first | exact True.intro | omega | ((repeat' apply And.intro) <;> first | exact True.intro | rfl | omega | (simp only [ll]; omega))) | refine Br.l (by first | assumption | omega) ?_ | refine Br.r (by first | assumption | omega) ?_)
  rename_i gid h1 q1 h2 hq
  refine ok_call (h6 _ _ hq) fun u h' hr => ?_
  obtain ⟨iid, xs, rfl, hx, hxs, hr⟩ := hr
  refine ok_call (m41 (N := N + 5) (sid := iid) (xs := xs) (n := Nn W 11 B) (tg := 3) rfl hx.symm (by omega) hxs) fun u h' hr => ?_
  obtain ⟨⟨ho, rfl⟩ | ⟨ho, rfl⟩, hr⟩ := hr
  · obtain ⟨h8', o0, o1, o2, o3, om, ow⟩ := id ho
    have ⟨⟨W1, W4⟩, ⟨I1, I4⟩, ⟨B1, B4⟩⟩ := om
    have hmod : c % xs.getD 1 default < xs.getD 1 default := Nat.mod_lt _ (by omega)
    unfold wordsI at ow
    (repeat first | intro _ | refine Stp.to ?_ | refine Lk.mk' rfl ?_ | (apply Sd.mk; case s => first | exact True.intro | omega | ((repeat' apply And.intro) <;> first | exact True.intro | rfl | omega | (simp only [ll]; omega))) | refine Br.l (by first | assumption | omega) ?_ | refine Br.r (by first | assumption | omega) ?_)
    rename_i hid h2 q2 h3 q3 h4 q4 h5 q5
    have hoz : isOf (xs.set (264 + 208 * (c % xs.getD 1 default)) e) := isOf_set ho (by omega)
    have hzs : ∀ x ∈ xs.set (264 + 208 * (c % xs.getD 1 default)) e, x < 18446744073709551616 := by
      intro x hxm
      rcases List.mem_or_eq_of_mem_set hxm with hxm | rfl
      · exact hxs x hxm
      · exact he
    have hzl : (xs.set (264 + 208 * (c % xs.getD 1 default)) e).length = Nn W 11 B := by rw [List.length_set, hx]
    have hz1 : (xs.set (264 + 208 * (c % xs.getD 1 default)) e).getD 1 default = xs.getD 1 default := getD_set_ne _ _ _ _ (by omega)
    generalize hzd : xs.set (264 + 208 * (c % xs.getD 1 default)) e = zs at *
    refine ok_loop (fun k vs h => k ≤ xs.getD 1 default ∧ vs = [.slice iid 0 (Nn W 11 B) 3, .ptr hid 0, .bool true, .bool (sm zs k), .int .i64 (.ofNat k)] ∧ Hp h (.a iid (.c (zs.map w64)) :: .a hid (.c [.int .i64 (xs.getD 1 default : Nat), .int .i64 (xs.getD 2 default : Nat), .int .i64 (xs.getD 3 default : Nat)]) :: F)) (fun k => xs.getD 1 default - k) 0 (by show xs.getD 1 default - 0 < 1000000; omega) ⟨by omega, rfl, Hp.to⟩ ?_
    rintro self k vs h ⟨hk, rfl, hp⟩ ih
    rcases Nat.lt_or_eq_of_le hk with hk | hkn
    · have hss := sm_succ zs k
      cases hsk : sm zs k with
      | true =>
        (repeat first | intro _ | refine Stp.to ?_ | refine Lk.mk' rfl ?_ | (apply Sd.mk; case s => first | exact True.intro | omega | ((repeat' apply And.intro) <;> first | exact True.intro | rfl | omega | (simp only [ll]; omega))) | refine Br.l (by first | assumption | omega) ?_ | refine Br.r (by first | assumption | omega) ?_)
        refine ih (k + 1) _ _ (by omega) ⟨by omega, ?_, Hp.to⟩
        rw [hss, hsk]
        simp
      | false =>
        (repeat first | intro _ | refine Stp.to ?_ | refine Lk.mk' rfl ?_ | (apply Sd.mk; case s => first | exact True.intro | omega | ((repeat' apply And.intro) <;> first | exact True.intro | rfl | omega | (simp only [ll]; omega))) | refine Br.l (by first | assumption | omega) ?_ | refine Br.r (by first | assumption | omega) ?_)
        refine Br.mk (fun hbr => ?_) (fun hbr => ?_)
        · (repeat first | intro _ | refine Stp.to ?_ | refine Lk.mk' rfl ?_ | (apply Sd.mk; case s => first | exact True.intro | omega | ((repeat' apply And.intro) <;> first | exact True.intro | rfl | omega | (simp only [ll]; omega))) | refine Br.l (by first | assumption | omega) ?_ | refine Br.r (by first | assumption | omega) ?_)
          refine ih (k + 1) _ _ (by omega) ⟨by omega, ?_, Hp.to⟩
          rw [hss, hsk]
          have : zs.getD (264 + 208 * k) default = 0 := by omega
          simpa using this
        · (repeat first | intro _ | refine Stp.to ?_ | refine Lk.mk' rfl ?_ | (apply Sd.mk; case s => first | exact True.intro | omega | ((repeat' apply And.intro) <;> first | exact True.intro | rfl | omega | (simp only [ll]; omega))) | refine Br.l (by first | assumption | omega) ?_ | refine Br.r (by first | assumption | omega) ?_)
          refine ih (k + 1) _ _ (by omega) ⟨by omega, ?_, Hp.to⟩
          rw [hss, hsk]
          have : zs.getD (264 + 208 * k) default ≠ 0 := by omega
          simpa using this
    · rw [hkn]
      (repeat first | intro _ | refine Stp.to ?_ | refine Lk.mk' rfl ?_ | (apply Sd.mk; case s => first | exact True.intro | omega | ((repeat' apply And.intro) <;> first | exact True.intro | rfl | omega | (simp only [ll]; omega))) | refine Br.l (by first | assumption | omega) ?_ | refine Br.r (by first | assumption | omega) ?_)
      refine ok_call (p7 (N := N + 1) hzl (by omega) (by omega) (by omega) (hp := hp)) fun u h' hr => ?_
      obtain ⟨d, wid, rfl, hr⟩ := hr
      cases hsk : sm zs (xs.getD 1 default) with
      | true =>
        refine ok_call (srv_state (N := N) hzl (by omega) (by omega) hzs hoz (by rw [hz1]; exact sm_true hsk)) fun u h' hr => ?_
        obtain ⟨rfl, hr⟩ := hr
        (repeat first | intro _ | refine Stp.to ?_ | refine Lk.mk' rfl ?_ | (apply Sd.mk; case s => first | exact True.intro | omega | ((repeat' apply And.intro) <;> first | exact True.intro | rfl | omega | (simp only [ll]; omega))) | refine Br.l (by first | assumption | omega) ?_ | refine Br.r (by first | assumption | omega) ?_)
        exact ⟨rfl, Hp.to⟩
      | false =>
        refine ok_call (srv_ok (N := N) hzl (by omega) (by omega) hzs hoz (by rw [hz1]; exact sm_false hsk)) fun u h' hr => ?_
        obtain ⟨sid, did, mid, wl, rfl, hr⟩ := hr
        rw [hz1] at hr
        (repeat first | intro _ | refine Stp.to ?_ | refine Lk.mk' rfl ?_ | (apply Sd.mk; case s => first | exact True.intro | omega | ((repeat' apply And.intro) <;> first | exact True.intro | rfl | omega | (simp only [ll]; omega))) | refine Br.l (by first | assumption | omega) ?_ | refine Br.r (by first | assumption | omega) ?_)
        refine ok_call (p11 (N := N + 8)) fun u h' hr => ?_
        obtain ⟨rfl, hr⟩ := hr
        (repeat first | intro _ | refine Stp.to ?_ | refine Lk.mk' rfl ?_ | (apply Sd.mk; case s => first | exact True.intro | omega | ((repeat' apply And.intro) <;> first | exact True.intro | rfl | omega | (simp only [ll]; omega))) | refine Br.l (by first | assumption | omega) ?_ | refine Br.r (by first | assumption | omega) ?_)
        refine ok_call (p12 (N := N + 8) (hp := by assumption)) fun u h' hr => ?_
        obtain ⟨rfl, hr⟩ := hr
        (repeat first | intro _ | refine Stp.to ?_ | refine Lk.mk' rfl ?_ | (apply Sd.mk; case s => first | exact True.intro | omega | ((repeat' apply And.intro) <;> first | exact True.intro | rfl | omega | (simp only [ll]; omega))) | refine Br.l (by first | assumption | omega) ?_ | refine Br.r (by first | assumption | omega) ?_)
        refine ok_call (p13 (N := N + 8) (W := xs.getD 1 default) (i := 0) (by omega) (hp := by assumption)) fun u h' hr => ?_
        obtain ⟨rfl, hr⟩ := hr
        (repeat first | intro _ | refine Stp.to ?_ | refine Lk.mk' rfl ?_ | (apply Sd.mk; case s => first | exact True.intro | omega | ((repeat' apply And.intro) <;> first | exact True.intro | rfl | omega | (simp only [ll]; omega))) | refine Br.l (by first | assumption | omega) ?_ | refine Br.r (by first | assumption | omega) ?_)
        exact ⟨rfl, Hp.to⟩
  · (repeat first | intro _ | refine Stp.to ?_ | refine Lk.mk' rfl ?_ | (apply Sd.mk; case s => first | exact True.intro | omega | ((repeat' apply And.intro) <;> first | exact True.intro | rfl | omega | (simp only [ll]; omega))) | refine Br.l (by first | assumption | omega) ?_ | refine Br.r (by first | assumption | omega) ?_)
    refine ok_unroll 999999 ?_
    (repeat first | intro _ | refine Stp.to ?_ | refine Lk.mk' rfl ?_ | (apply Sd.mk; case s => first | exact True.intro | omega | ((repeat' apply And.intro) <;> first | exact True.intro | rfl | omega | (simp only [ll]; omega))) | refine Br.l (by first | assumption | omega) ?_ | refine Br.r (by first | assumption | omega) ?_)
    rename_i hid h3 q3 h4 q4
    refine ok_call (p7 (N := N + 1) hx (by omega) (by omega) (by omega) (hp := Hp.pk (id := iid) q4)) fun u h' hr => ?_
    obtain ⟨d, wid, rfl, hr⟩ := hr
    (repeat first | intro _ | refine Stp.to ?_ | refine Lk.mk' rfl ?_ | (apply Sd.mk; case s => first | exact True.intro | omega | ((repeat' apply And.intro) <;> first | exact True.intro | rfl | omega | (simp only [ll]; omega))) | refine Br.l (by first | assumption | omega) ?_ | refine Br.r (by first | assumption | omega) ?_)
    refine ok_call (srv_none (N := N) hx (by omega) (by omega) hxs ho) fun u h' hr => ?_
    obtain ⟨rfl, hr⟩ := hr
    (repeat first | intro _ | refine Stp.to ?_ | refine Lk.mk' rfl ?_ | (apply Sd.mk; case s => first | exact True.intro | omega | ((repeat' apply And.intro) <;> first | exact True.intro | rfl | omega | (simp only [ll]; omega))) | refine Br.l (by first | assumption | omega) ?_ | refine Br.r (by first | assumption | omega) ?_)
    exact ⟨rfl, Hp.to⟩
/-- the law, of turns that stand in a row -/
theorem law_row {a b c e : Nat} {ts : List Tn} {tid m tg : Nat} (ha : a < 256) (hb : b < 256) (hc : c < 256) (he : e < 18446744073709551616) (ht : ∀ t ∈ ts, t.ok) (hm : m ≤ ts.length) (hm2 : m ≤ 9223372036854775807) (htg : tg / 2 = 2) [hp : Hp h (.a tid (.c (ts.flatMap eT)) :: F)] :
    Ok (K.run tbS ty (N + 10) (.fn 3) [.int .u8 (.ofNat a), .int .u8 (.ofNat b), .slice tid 0 m tg, .int .u8 (.ofNat c), .int .u64 (.ofNat e)] h) (fun u h' => u = .bool true ∧ Hp h' (.a tid (.c (ts.flatMap eT)) :: F)) := by
  by_cases h20 : m ≤ 20
  · refine lawB ha hb hc he rfl rfl h20 (fun g => rfl) fun h G hp => ?_
    refine Ok.mono (p6 (N := N + 4) (F := G :: F) (mayOf a b) ht hm (by omega) htg (hp := hp.perm (.swap _ _ _))) ?_
    rintro v h' ⟨id, xs, rfl, hx, hxs, hq⟩
    exact ⟨id, xs, rfl, hx, hxs, hq.perm ((List.Perm.swap _ _ _).cons _)⟩
  · exact lawA (N := N + 8) (by omega) hm2
/-- the law, of no turns -/
theorem law_none {a b c e : Nat} {v : AV} (ha : a < 256) (hb : b < 256) (hc : c < 256) (he : e < 18446744073709551616) (hv : v = .nilSlice ∨ ∃ i o tg, v = .slice i o 0 tg) [hp : Hp h F] :
    Ok (K.run tbS ty (N + 10) (.fn 3) [.int .u8 (.ofNat a), .int .u8 (.ofNat b), v, .int .u8 (.ofNat c), .int .u64 (.ofNat e)] h) (fun u h' => u = .bool true ∧ Hp h' F) := by
  refine lawB ha hb hc he rfl rfl (m := 0) (by omega) (fun g => by rcases hv with rfl | ⟨i, o, tg, rfl⟩ <;> rfl) fun h G hp => ?_
  exact p6e (N := N + 4) (mayOf a b) hv (hp := hp)
end
end YthlpjeoddenioaaGreatDoorSfM
