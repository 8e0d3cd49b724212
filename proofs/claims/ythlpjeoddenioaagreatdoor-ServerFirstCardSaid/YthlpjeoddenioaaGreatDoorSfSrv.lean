/- A server is made. -/
import Derived.Test.YthlpjeoddenioaaGreatDoorSfGeo4
import Derived.Test.YthlpjeoddenioaaGreatDoorSfDev6
namespace YthlpjeoddenioaaGreatDoorSfM
open Go Am
set_option maxRecDepth 100000
section
variable {L F r1 r2 : List As} {h : H} {Q : AV → H → Prop} {f : AV → H → K.KR} {N d wid n : Nat} {ws : List Wd} {x y z x' y' z' i i' : Int}
theorem m46 {W I B j : Nat} (hm : mayI W I B) (hj : j < W) [hp : Hp h F] : Ok (K.run tbS ty (N + 4) (.fn 8) [gI W I B, .int .i64 (j : Int)] h) (fun u h' => u = .int .i64 ((264 + 208 * j : Nat) : Int) ∧ Hp h' F) := by
  rw [u8]; unfold r8
  (repeat first | intro _ | refine Stp.to ?_ | refine Lk.mk' rfl ?_ | (apply Sd.mk; case s => first | exact True.intro | omega | ((repeat' apply And.intro) <;> first | exact True.intro | rfl | omega | (simp only [ll]; omega))) | refine Br.l (by first | assumption | omega) ?_ | refine Br.r (by first | assumption | omega) ?_)
  refine ok_call (m54a (N := N) hm (by omega)) fun v h' hr => ?_
  obtain ⟨rfl, hr⟩ := hr
  (repeat first | intro _ | refine Stp.to ?_ | refine Lk.mk' rfl ?_ | (apply Sd.mk; case s => first | exact True.intro | omega | ((repeat' apply And.intro) <;> first | exact True.intro | rfl | omega | (simp only [ll]; omega))) | refine Br.l (by first | assumption | omega) ?_ | refine Br.r (by first | assumption | omega) ?_)
  exact ⟨by congr 1, Hp.to⟩
instance d46 {W I B j : Nat} {s1 s2 s3 s4 : Prop} [hp : Hp h L] [nx : NN x W s1] [ny : NN y I s2] [nz : NN z B s3] [ni : NN i j s4] : Stp (K.callFK (K.run tbS ty N) 8 [.agg [.int .i64 x, .int .i64 y, .int .i64 z], .int .i64 i] h f) Q
    (Sd (s1 ∧ s2 ∧ s3 ∧ s4 ∧ 4 ≤ N) (Sd (mayI W I B ∧ j < W) (∀ h', Hp h' L → Ok (f (.int .i64 ((264 + 208 * j : Nat) : Int)) h') Q))) := ⟨fun p => by
  obtain ⟨⟨p1, p2, p3, p4, p5⟩, p0, p⟩ := p
  obtain ⟨N, rfl⟩ : ∃ m, N = m + 4 := ⟨N - 4, by omega⟩
  rw [nx.eq p1, ny.eq p2, nz.eq p3, ni.eq p4]
  exact ok_call (m46 p0.1 p0.2) fun v h' hr => by obtain ⟨rfl, hr⟩ := hr; exact p h' hr⟩
instance c30 [hp : Hp h L] [q1 : Pk L d (dO d wid n) r1] : Stp (K.callFK (K.run tbS ty N) 65 [.ptr d 0] h f) Q (Sd (1 ≤ N) (∀ h', Hp h' (dO d wid n :: r1) → Ok (f (.int .i64 n) h') Q)) := ⟨fun p => by
  obtain ⟨p1, p⟩ := p
  obtain ⟨N, rfl⟩ : ∃ m, N = m + 1 := ⟨N - 1, by omega⟩
  haveI := hp.perm q1.perm
  exact ok_call p30 fun v h' hr => by obtain ⟨rfl, hr⟩ := hr; exact p h' hr⟩
theorem m48 {W I B w : Nat} (hm : mayI W I B) (hw : w < W) (hn : Nn W I B ≤ n) (hn2 : n ≤ 65536) [hp : Hp h (dO d wid n :: F)] : Ok (K.run tbS ty (N + 5) (.fn 48) [.ptr d 0, gI W I B, .int .i64 (w : Int)] h)
    (fun u h' => ∃ rid, u = .tup [.ptr rid 0, .int .i64 (.ofNat 0)] ∧ Hp h' (dO d wid n :: F)) := by
  have hw2 : wordsI W I B = ((Nn W I B : Nat) : Int) := by unfold wordsI Nn; omega
  rw [u48]; unfold r48
  (repeat first | intro _ | refine Stp.to ?_ | refine Lk.mk' rfl ?_ | (apply Sd.mk; case s => first | exact True.intro | omega | ((repeat' apply And.intro) <;> first | exact True.intro | rfl | omega | (simp only [ll]; omega))) | refine Br.l (by first | assumption | omega) ?_ | refine Br.r (by first | assumption | omega) ?_)
  refine Sd.mk ⟨hm, hw⟩ ?_
  (repeat first | intro _ | refine Stp.to ?_ | refine Lk.mk' rfl ?_ | (apply Sd.mk; case s => first | exact True.intro | omega | ((repeat' apply And.intro) <;> first | exact True.intro | rfl | omega | (simp only [ll]; omega))) | refine Br.l (by first | assumption | omega) ?_ | refine Br.r (by first | assumption | omega) ?_)
  exact ⟨_, rfl, Hp.to⟩
theorem m25 {W I B w t : Nat} (hm : mayI W I B) (hw : w < W) (hn : Nn W I B ≤ n) (hn2 : n ≤ 65536) [hp : Hp h (dO d wid n :: F)] : Ok (K.run tbS ty (N + 6) (.fn 25) [.ptr d 0, gI W I B, .ptr t 0, .int .i64 (w : Int)] h)
    (fun u h' => ∃ rid, u = .tup [.ptr rid 0, .int .i64 (.ofNat 0)] ∧ Hp h' (dO d wid n :: F)) := by
  rw [u25]; unfold r25
  (repeat first | intro _ | refine Stp.to ?_ | refine Lk.mk' rfl ?_ | (apply Sd.mk; case s => first | exact True.intro | omega | ((repeat' apply And.intro) <;> first | exact True.intro | rfl | omega | (simp only [ll]; omega))) | refine Br.l (by first | assumption | omega) ?_ | refine Br.r (by first | assumption | omega) ?_)
  refine ok_call (m48 (N := N) hm hw hn hn2 (hp := Hp.pk (id := d) ‹_›)) fun v h' hr => ?_
  obtain ⟨rid, rfl, hr⟩ := hr
  (repeat first | intro _ | refine Stp.to ?_ | refine Lk.mk' rfl ?_ | (apply Sd.mk; case s => first | exact True.intro | omega | ((repeat' apply And.intro) <;> first | exact True.intro | rfl | omega | (simp only [ll]; omega))) | refine Br.l (by first | assumption | omega) ?_ | refine Br.r (by first | assumption | omega) ?_)
  exact ⟨_, rfl, Hp.to⟩
theorem m24 {W : Nat} (h1 : 1 ≤ W) (h2 : W ≤ 4) [hp : Hp h F] : Ok (K.run tbS ty (N + 1) (.fn 24) [.int .i64 (W : Int)] h) (fun u h' => ∃ tid, u = .tup [.ptr tid 0, .int .i64 (.ofNat 0)] ∧ Hp h' F) := by
  rw [u24]; unfold r24
  (repeat first | intro _ | refine Stp.to ?_ | refine Lk.mk' rfl ?_ | (apply Sd.mk; case s => first | exact True.intro | omega | ((repeat' apply And.intro) <;> first | exact True.intro | rfl | omega | (simp only [ll]; omega))) | refine Br.l (by first | assumption | omega) ?_ | refine Br.r (by first | assumption | omega) ?_)
  exact ⟨_, rfl, Hp.to⟩
def tkL (n : Nat) : List AV := [.int .i64 (.ofNat n)]
theorem mkMap9 (run : K.KRun) (h : H) (g : AV → H → K.KR) : K.slowK ctx run (K.opAt Go.Proofs.Tryz.f9 16 4) [] [] h g = K.rK (.ok (.map (h.new (.map [] 0)).1, (h.new (.map [] 0)).2)) g := by kernel_rfl
/-- a ticket -/
abbrev eK (n : Nat) : List AV := [.int .i64 (.ofNat n), .int .u8 (.ofNat 0), .int .i64 (.ofNat 0), .int .u64 (.ofNat 0), .int .u64 (.ofNat 0), .int .u8 (.ofNat 0), .int .u8 (.ofNat 0), .int .u64 (.ofNat 0), .int .u64 (.ofNat 0), .int .u64 (.ofNat 0), .str [], .str [], .str []]
instance es_K : Es eK 13 := ⟨by decide, fun a => ⟨rfl, rfl⟩⟩
/-- no server: words that are no device's -/
theorem srv_none {xs : List Nat} (hn : xs.length = n) (h8 : 0 < n) (hn2 : n ≤ 65536) (hx : ∀ a ∈ xs, a < 18446744073709551616) (ho : ¬ isOf xs) [hp : Hp h (dO d wid n :: wO wid (xs.map fresh) :: F)] :
    Ok (K.run tbS ty (N + 9) (.fn 9) [.ptr d 0] h) (fun u h' => u = .tup [.nilPtr, .int .i64 (.ofNat 4)] ∧ Hp h' F) := by
  have hs : (xs.map fresh).map Wd.seen = xs := by
    rw [List.map_map]
    exact List.map_id _
  rw [u9]; unfold r9 r9N
  (repeat first | intro _ | refine Stp.to ?_ | refine Lk.mk' rfl ?_ | (apply Sd.mk; case s => first | exact True.intro | omega | ((repeat' apply And.intro) <;> first | exact True.intro | rfl | omega | (simp only [ll]; omega))) | refine Br.l (by first | assumption | omega) ?_ | refine Br.r (by first | assumption | omega) ?_)
  refine ok_call (p42 (N := N + 5) (by rw [List.length_map, hn]) h8 hn2) fun v h' hr => ?_
  obtain ⟨sid, rfl, hr⟩ := hr
  rw [hs] at hr
  refine ok_call (m41 (N := N + 4) (tg := 2) rfl hn.symm hn2 hx) fun v h' hr => ?_
  obtain ⟨⟨hq, rfl⟩ | ⟨_, rfl⟩, hr⟩ := hr
  · exact absurd hq ho
  (repeat first | intro _ | refine Stp.to ?_ | refine Lk.mk' rfl ?_ | (apply Sd.mk; case s => first | exact True.intro | omega | ((repeat' apply And.intro) <;> first | exact True.intro | rfl | omega | (simp only [ll]; omega))) | refine Br.l (by first | assumption | omega) ?_ | refine Br.r (by first | assumption | omega) ?_)
  exact ⟨rfl, Hp.to⟩
/-- words of a device: its geometry -/
abbrev gW (xs : List Nat) : AV := gI (xs.getD 1 default) (xs.getD 2 default) (xs.getD 3 default)
/-- no server: a commit word that stands -/
theorem srv_state {xs : List Nat} (hn : xs.length = n) (h8 : 0 < n) (hn2 : n ≤ 65536) (hx : ∀ a ∈ xs, a < 18446744073709551616) (ho : isOf xs) (hs : ∃ w, w < xs.getD 1 default ∧ xs.getD (264 + 208 * w) default ≠ 0) [hp : Hp h (dO d wid n :: wO wid (xs.map fresh) :: F)] :
    Ok (K.run tbS ty (N + 9) (.fn 9) [.ptr d 0] h) (fun u h' => u = .tup [.nilPtr, .int .i64 (.ofNat 3)] ∧ Hp h' F) := by
  obtain ⟨h8', o0, o1, o2, o3, om, ow⟩ := id ho
  have ⟨⟨w1, w4⟩, ⟨i1, i4⟩, ⟨b1, b4⟩⟩ := om
  have hs' : (xs.map fresh).map Wd.seen = xs := by
    rw [List.map_map]
    exact List.map_id _
  have hww : wordsI (xs.getD 1 default) (xs.getD 2 default) (xs.getD 3 default) = ((Nn (xs.getD 1 default) (xs.getD 2 default) (xs.getD 3 default) : Nat) : Int) := by unfold wordsI Nn; omega
  have hNn : Nn (xs.getD 1 default) (xs.getD 2 default) (xs.getD 3 default) = 280 + 208 * xs.getD 1 default + 16 * xs.getD 2 default + 8 * xs.getD 3 default := rfl
  rw [u9]; unfold r9 r9N
  (repeat first | intro _ | refine Stp.to ?_ | refine Lk.mk' rfl ?_ | (apply Sd.mk; case s => first | exact True.intro | omega | ((repeat' apply And.intro) <;> first | exact True.intro | rfl | omega | (simp only [ll]; omega))) | refine Br.l (by first | assumption | omega) ?_ | refine Br.r (by first | assumption | omega) ?_)
  refine ok_call (p42 (N := N + 5) (by rw [List.length_map, hn]) h8 hn2) fun v h' hr => ?_
  obtain ⟨sid, rfl, hr⟩ := hr
  rw [hs'] at hr
  refine ok_call (m41 (N := N + 4) (tg := 2) rfl hn.symm hn2 hx) fun v h' hr => ?_
  obtain ⟨⟨_, rfl⟩ | ⟨hq, rfl⟩, hr⟩ := hr
  case inr => exact absurd ho hq
  (repeat first | intro _ | refine Stp.to ?_ | refine Lk.mk' rfl ?_ | (apply Sd.mk; case s => first | exact True.intro | omega | ((repeat' apply And.intro) <;> first | exact True.intro | rfl | omega | (simp only [ll]; omega))) | refine Br.l (by first | assumption | omega) ?_ | refine Br.r (by first | assumption | omega) ?_)
  rename_i gid hg0 hgp0 hg1 hgp
  refine ok_loop (fun k vs h => (k ≤ xs.getD 1 default ∧ ∀ w, w < k → xs.getD (264 + 208 * w) default = 0) ∧ vs = [.ptr d 0, .slice sid 0 n 2, .ptr gid 0, .int .i64 ((xs.getD 1 default : Nat) : Int), .int .i64 (.ofNat k)] ∧ Hp h (.a gid (.c [.int .i64 ((xs.getD 1 default : Nat) : Int), .int .i64 ((xs.getD 2 default : Nat) : Int), .int .i64 ((xs.getD 3 default : Nat) : Int)]) :: .a sid (.c (xs.map w64)) :: F)) (fun k => xs.getD 1 default - k) 0 (by show _ - 0 < 1000000; omega) ⟨⟨by omega, fun w hw => by omega⟩, rfl, Hp.to⟩ ?_
  rintro self k vs h ⟨⟨hk, hz⟩, rfl, hp⟩ ih
  rcases Nat.lt_or_eq_of_le hk with hk | hkn
  · by_cases hz0 : xs.getD (264 + 208 * k) default = 0
    · (repeat first | intro _ | refine Stp.to ?_ | refine Lk.mk' rfl ?_ | (apply Sd.mk; case s => first | exact True.intro | omega | ((repeat' apply And.intro) <;> first | exact True.intro | rfl | omega | (simp only [ll]; omega))) | refine Br.l (by first | assumption | omega) ?_ | refine Br.r (by first | assumption | omega) ?_)
      exact ih (k + 1) _ _ (by omega) ⟨⟨by omega, fun w hw => by
        rcases Nat.lt_or_eq_of_le (Nat.le_of_lt_succ hw) with h1 | rfl
        · exact hz w h1
        · exact hz0⟩, by simp, Hp.to⟩
    · (repeat first | intro _ | refine Stp.to ?_ | refine Lk.mk' rfl ?_ | (apply Sd.mk; case s => first | exact True.intro | omega | ((repeat' apply And.intro) <;> first | exact True.intro | rfl | omega | (simp only [ll]; omega))) | refine Br.l (by first | assumption | omega) ?_ | refine Br.r (by first | assumption | omega) ?_)
      exact ⟨rfl, Hp.to⟩
  · obtain ⟨w, hw, hwn⟩ := hs
    exact absurd (hz w (by omega)) hwn
/-- a server -/
theorem srv_ok {xs : List Nat} (hn : xs.length = n) (h8 : 0 < n) (hn2 : n ≤ 65536) (hx : ∀ a ∈ xs, a < 18446744073709551616) (ho : isOf xs) (hz : ∀ w, w < xs.getD 1 default → xs.getD (264 + 208 * w) default = 0) [hp : Hp h (dO d wid n :: wO wid (xs.map fresh) :: F)] :
    Ok (K.run tbS ty (N + 9) (.fn 9) [.ptr d 0] h) (fun u h' => ∃ sid did mid wl, u = .tup [.ptr sid 0, .int .i64 (.ofNat 0)] ∧
      Hp h' (.a sid (.c [.ptr d 0, .slice wl 0 (xs.getD 1 default) 2, .slice did 0 (xs.getD 1 default) 27, .nilSlice, .map mid, .int .i64 (.ofNat 0)]) :: .a did (.c ((List.replicate (xs.getD 1 default) 0).flatMap eK)) :: F)) := by
  have ⟨h8', o0, o1, o2, o3, om, ow⟩ := ho
  have ⟨⟨w1, w4⟩, ⟨i1, i4⟩, ⟨b1, b4⟩⟩ := om
  have hs' : (xs.map fresh).map Wd.seen = xs := by
    rw [List.map_map]
    exact List.map_id _
  have hww : wordsI (xs.getD 1 default) (xs.getD 2 default) (xs.getD 3 default) = ((Nn (xs.getD 1 default) (xs.getD 2 default) (xs.getD 3 default) : Nat) : Int) := by unfold wordsI Nn; omega
  have hNn : Nn (xs.getD 1 default) (xs.getD 2 default) (xs.getD 3 default) = 280 + 208 * xs.getD 1 default + 16 * xs.getD 2 default + 8 * xs.getD 3 default := rfl
  rw [u9]; unfold r9 r9N
  (repeat first | intro _ | refine Stp.to ?_ | refine Lk.mk' rfl ?_ | (apply Sd.mk; case s => first | exact True.intro | omega | ((repeat' apply And.intro) <;> first | exact True.intro | rfl | omega | (simp only [ll]; omega))) | refine Br.l (by first | assumption | omega) ?_ | refine Br.r (by first | assumption | omega) ?_)
  refine ok_call (p42 (N := N + 5) (by rw [List.length_map, hn]) h8 hn2) fun v h' hr => ?_
  obtain ⟨sid, rfl, hr⟩ := hr
  rw [hs'] at hr
  refine ok_call (m41 (N := N + 4) (tg := 2) rfl hn.symm hn2 hx) fun v h' hr => ?_
  obtain ⟨⟨_, rfl⟩ | ⟨hq, rfl⟩, hr⟩ := hr
  case inr => exact absurd ho hq
  (repeat first | intro _ | refine Stp.to ?_ | refine Lk.mk' rfl ?_ | (apply Sd.mk; case s => first | exact True.intro | omega | ((repeat' apply And.intro) <;> first | exact True.intro | rfl | omega | (simp only [ll]; omega))) | refine Br.l (by first | assumption | omega) ?_ | refine Br.r (by first | assumption | omega) ?_)
  rename_i gid hg0 hgp0 hg1 hgp
  generalize hW : xs.getD 1 default = W at *
  generalize hI : xs.getD 2 default = I at *
  generalize hB : xs.getD 3 default = B at *
  refine ok_loop (fun k vs h => k ≤ W ∧ vs = [.ptr d 0, .slice sid 0 n 2, .ptr gid 0, .int .i64 (W : Int), .int .i64 (.ofNat k)] ∧ Hp h (.a gid (.c [.int .i64 (W : Int), .int .i64 (I : Int), .int .i64 (B : Int)]) :: .a sid (.c (xs.map w64)) :: dO d wid n :: F)) (fun k => W - k) 0 (by show W - 0 < 1000000; omega) ⟨by omega, rfl, Hp.to⟩ ?_
  rintro self k vs h ⟨hk, rfl, hp⟩ ih
  rcases Nat.lt_or_eq_of_le hk with hk | hkn
  · have hz0 := hz k hk
    (repeat first | intro _ | refine Stp.to ?_ | refine Lk.mk' rfl ?_ | (apply Sd.mk; case s => first | exact True.intro | omega | ((repeat' apply And.intro) <;> first | exact True.intro | rfl | omega | (simp only [ll]; omega))) | refine Br.l (by first | assumption | omega) ?_ | refine Br.r (by first | assumption | omega) ?_)
    exact ih (k + 1) _ _ (by omega) ⟨by omega, by simp, Hp.to⟩
  · rw [hkn]
    (repeat first | intro _ | refine Stp.to ?_ | refine Lk.mk' rfl ?_ | (apply Sd.mk; case s => first | exact True.intro | omega | ((repeat' apply And.intro) <;> first | exact True.intro | rfl | omega | (simp only [ll]; omega))) | refine Br.l (by first | assumption | omega) ?_ | refine Br.r (by first | assumption | omega) ?_)
    refine ok_call (m24 (N := N + 7) (W := W) (by omega) (by omega)) fun v h' hr => ?_
    obtain ⟨tid, rfl, hr⟩ := hr
    (repeat first | intro _ | refine Stp.to ?_ | refine Lk.mk' rfl ?_ | (apply Sd.mk; case s => first | exact True.intro | omega | ((repeat' apply And.intro) <;> first | exact True.intro | rfl | omega | (simp only [ll]; omega))) | refine Br.l (by first | assumption | omega) ?_ | refine Br.r (by first | assumption | omega) ?_)
    rename_i did h1 hp1
    rw [mkMap9]
    refine ok_newMap fun mid h2 hp2 => ?_
    (repeat first | intro _ | refine Stp.to ?_ | refine Lk.mk' rfl ?_ | (apply Sd.mk; case s => first | exact True.intro | omega | ((repeat' apply And.intro) <;> first | exact True.intro | rfl | omega | (simp only [ll]; omega))) | refine Br.l (by first | assumption | omega) ?_ | refine Br.r (by first | assumption | omega) ?_)
    rename_i ssid h3 hp3
    refine ok_loop (fun k vs h => k ≤ W ∧ vs = [.ptr d 0, .ptr gid 0, .ptr tid 0, .ptr ssid 0, .int .i64 (W : Int), .int .i64 (.ofNat k)] ∧
      ((k = 0 ∧ Hp h (.a ssid (.c [.ptr d 0, .nilSlice, .slice did 0 W 27, .nilSlice, .map mid, .int .i64 (.ofNat 0)]) :: .a did (.c (repl W (eK 0))) :: .a gid (.c [.int .i64 (W : Int), .int .i64 (I : Int), .int .i64 (B : Int)]) :: dO d wid n :: F)) ∨
       (0 < k ∧ ∃ wl, ∃ ps : List AV, ps.length = k ∧ Hp h (.a ssid (.c [.ptr d 0, .slice wl 0 k 2, .slice did 0 W 27, .nilSlice, .map mid, .int .i64 (.ofNat 0)]) :: .a wl (.c ps) :: .a did (.c (repl W (eK 0))) :: .a gid (.c [.int .i64 (W : Int), .int .i64 (I : Int), .int .i64 (B : Int)]) :: dO d wid n :: F)))) (fun k => W - k) 0 (by show W - 0 < 1000000; omega)
      ⟨by omega, rfl, .inl ⟨rfl, Hp.to⟩⟩ ?_
    rintro self k vs h ⟨hk, rfl, ⟨rfl, hp⟩ | ⟨hk0, wl, ps, hps, hp⟩⟩ ih
    · (repeat first | intro _ | refine Stp.to ?_ | refine Lk.mk' rfl ?_ | (apply Sd.mk; case s => first | exact True.intro | omega | ((repeat' apply And.intro) <;> first | exact True.intro | rfl | omega | (simp only [ll]; omega))) | refine Br.l (by first | assumption | omega) ?_ | refine Br.r (by first | assumption | omega) ?_)
      refine ok_call (m25 (N := N + 2) (W := W) (I := I) (B := B) (w := 0) om (by omega) (by omega) hn2 (hp := Hp.pk (id := d) hp)) fun v h' hr => ?_
      obtain ⟨xid, rfl, hr⟩ := hr
      (repeat first | intro _ | refine Stp.to ?_ | refine Lk.mk' rfl ?_ | (apply Sd.mk; case s => first | exact True.intro | omega | ((repeat' apply And.intro) <;> first | exact True.intro | rfl | omega | (simp only [ll]; omega))) | refine Br.l (by first | assumption | omega) ?_ | refine Br.r (by first | assumption | omega) ?_)
      rename_i wl h4 hp4 h5 hp5
      exact ih 1 _ _ (by omega) ⟨by omega, by simp, .inr ⟨by omega, wl, [.ptr xid 0], rfl, Hp.to⟩⟩
    · rcases Nat.lt_or_eq_of_le hk with hk | hkn
      · (repeat first | intro _ | refine Stp.to ?_ | refine Lk.mk' rfl ?_ | (apply Sd.mk; case s => first | exact True.intro | omega | ((repeat' apply And.intro) <;> first | exact True.intro | rfl | omega | (simp only [ll]; omega))) | refine Br.l (by first | assumption | omega) ?_ | refine Br.r (by first | assumption | omega) ?_)
        refine ok_call (m25 (N := N + 2) (W := W) (I := I) (B := B) (w := k) om (by omega) (by omega) hn2 (hp := Hp.pk (id := d) hp)) fun v h' hr => ?_
        obtain ⟨xid, rfl, hr⟩ := hr
        (repeat first | intro _ | refine Stp.to ?_ | refine Lk.mk' rfl ?_ | (apply Sd.mk; case s => first | exact True.intro | omega | ((repeat' apply And.intro) <;> first | exact True.intro | rfl | omega | (simp only [ll]; omega))) | refine Br.l (by first | assumption | omega) ?_ | refine Br.r (by first | assumption | omega) ?_)
        rename_i wl2 h4 hp4 h5 hp5
        exact ih (k + 1) _ _ (by omega) ⟨by omega, by simp, .inr ⟨by omega, wl2, ps ++ [.ptr xid 0], by simp [hps], Hp.to⟩⟩
      · rw [hkn] at hp ⊢
        (repeat first | intro _ | refine Stp.to ?_ | refine Lk.mk' rfl ?_ | (apply Sd.mk; case s => first | exact True.intro | omega | ((repeat' apply And.intro) <;> first | exact True.intro | rfl | omega | (simp only [ll]; omega))) | refine Br.l (by first | assumption | omega) ?_ | refine Br.r (by first | assumption | omega) ?_)
        refine ⟨ssid, did, mid, wl, rfl, ?_⟩
        rw [← repl_flat]
        exact Hp.to
end
end YthlpjeoddenioaaGreatDoorSfM
