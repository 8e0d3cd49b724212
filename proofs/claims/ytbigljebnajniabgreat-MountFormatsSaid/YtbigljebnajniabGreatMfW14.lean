/- The law. -/
import Derived.Test.YtbigljebnajniabGreatMfW13
import Derived.Test.YtbigljebnajniabGreatMfGeo
namespace YtbigljebnajniabGreatMfM
open Go Am
set_option maxRecDepth 100000
def isT (o : Option AV) : Bool := match o with | some (.bool true) => true | _ => false
theorem isT_ok {o : Option AV} (h : isT o = true) : o = some (.bool true) := by
  unfold isT at h
  split at h
  · rfl
  · cases h
theorem eqG : allG (fun W B => isT (K.binV ctx .eql 25 false (gv W B) (gv W B))) = true := by kernel_rfl
section
variable {L F r1 r2 : List As} {h : H} {Q : AV → H → Prop} {f : AV → H → K.KR} {N W B d wid n : Nat} {ws : List Wd} {x y z x' y' z' : Int}
instance cw4 : Stp (K.callFK (K.run (tbG W B) ty N) 4 [] h f) Q (Sd (1 ≤ N) (Ok (f (.bool true) h) Q)) := ⟨fun p => by
  obtain ⟨N, rfl⟩ : ∃ m, N = m + 1 := ⟨N - 1, by have := p.s; omega⟩
  exact .eq (K.callFK_of (kg4 W B N h)) p.p⟩
theorem lawA {a b : Int} {m o i tg : Nat} (hm : 60 < m) (hm2 : m ≤ 9223372036854775807) [hp : Hp h F] : Ok (K.run (tbG W B) ty (N + 2) (.fn 3) [.int .u8 a, .int .u8 b, .slice i o m tg] h) (fun u h' => u = .bool true ∧ Hp h' F) := by
  rw [u3]; unfold r3
  (repeat first | intro _ | refine Stp.to ?_ | refine Lk.mk' rfl ?_ | (apply Sd.mk; case s => first | exact True.intro | omega | ((repeat' apply And.intro) <;> first | exact True.intro | rfl | omega | (simp only [List.length_set, List.length_modify, List.length_take, List.length_drop, List.length_map, List.length_replicate, List.length_append, List.length_cons, List.length_nil]; omega))) | refine Br.l (by first | assumption | omega) ?_ | refine Br.r (by first | assumption | omega) ?_)
  exact ⟨rfl, hp⟩
/-- from the image on -/
theorem lawB {a b : Nat} {v : AV} (ha : a < 256) (hb : b < 256) (hw : W = wOfA a) (hB : B = bOfB b) {m : Nat} (hm : m ≤ 60) (hl : ∀ g : AV → K.KR, K.lenVK v g = g (.int .i64 (.ofNat m)))
    (h6 : ∀ (h : H) (G : As) (hp : Hp h (G :: F)), Ok (K.run (tbG W B) ty (N + 11) (.fn 6) [.agg (gL W B), v, .int .u16 (.ofNat 0)] h) fun u h' => ∃ id, ∃ xs : List Nat, u = .slice id 0 (Nw W B) 3 ∧ xs.length = Nw W B ∧ Hp h' (.a id (.c (xs.map w64)) :: G :: F))
    [hp : Hp h F] : Ok (K.run (tbG W B) ty (N + 12) (.fn 3) [.int .u8 (.ofNat a), .int .u8 (.ofNat b), v] h) (fun u h' => u = .bool true ∧ Hp h' F) := by
  have hg : Geo W B := by rw [hw, hB]; exact geoOf a b
  have ⟨w1, w4, b1, b4⟩ := hg
  have hN : Nw W B = 456 + 208 * W + 8 * B := rfl
  have hfl : (fmtL W B).length = Nw W B := by simp [fmtL, Nw]
  rw [u3]; unfold r3
  (repeat first | intro _ | refine Stp.to ?_ | refine Lk.mk' rfl ?_ | (apply Sd.mk; case s => first | exact True.intro | omega | ((repeat' apply And.intro) <;> first | exact True.intro | rfl | omega | (simp only [List.length_set, List.length_modify, List.length_take, List.length_drop, List.length_map, List.length_replicate, List.length_append, List.length_cons, List.length_nil]; omega))) | refine Br.l (by first | assumption | omega) ?_ | refine Br.r (by first | assumption | omega) ?_)
  rw [hl]
  (repeat first | intro _ | refine Stp.to ?_ | refine Lk.mk' rfl ?_ | (apply Sd.mk; case s => first | exact True.intro | omega | ((repeat' apply And.intro) <;> first | exact True.intro | rfl | omega | (simp only [List.length_set, List.length_modify, List.length_take, List.length_drop, List.length_map, List.length_replicate, List.length_append, List.length_cons, List.length_nil]; omega))) | refine Br.l (by first | assumption | omega) ?_ | refine Br.r (by first | assumption | omega) ?_)
  refine ok_call (p5 (N := N + 8) ha hb) fun u h' hr => ?_
  obtain ⟨rfl, hr⟩ := hr
  rw [← hw, ← hB]
  (repeat first | intro _ | refine Stp.to ?_ | refine Lk.mk' rfl ?_ | (apply Sd.mk; case s => first | exact True.intro | omega | ((repeat' apply And.intro) <;> first | exact True.intro | rfl | omega | (simp only [List.length_set, List.length_modify, List.length_take, List.length_drop, List.length_map, List.length_replicate, List.length_append, List.length_cons, List.length_nil]; omega))) | refine Br.l (by first | assumption | omega) ?_ | refine Br.r (by first | assumption | omega) ?_)
  rename_i gid h1 q1 h2 hq
  refine ok_call (h6 _ _ hq) fun u h' hr => ?_
  obtain ⟨iid, xs, rfl, hx, hr⟩ := hr
  (repeat first | intro _ | refine Stp.to ?_ | refine Lk.mk' rfl ?_ | (apply Sd.mk; case s => first | exact True.intro | omega | ((repeat' apply And.intro) <;> first | exact True.intro | rfl | omega | (simp only [List.length_set, List.length_modify, List.length_take, List.length_drop, List.length_map, List.length_replicate, List.length_append, List.length_cons, List.length_nil]; omega))) | refine Br.l (by first | assumption | omega) ?_ | refine Br.r (by first | assumption | omega) ?_)
  refine ok_call (p7 (N := N + 3) hx (by omega) (by omega) (by omega)) fun u h' hr => ?_
  obtain ⟨d, wid, rfl, hr⟩ := hr
  (repeat first | intro _ | refine Stp.to ?_ | refine Lk.mk' rfl ?_ | (apply Sd.mk; case s => first | exact True.intro | omega | ((repeat' apply And.intro) <;> first | exact True.intro | rfl | omega | (simp only [List.length_set, List.length_modify, List.length_take, List.length_drop, List.length_map, List.length_replicate, List.length_append, List.length_cons, List.length_nil]; omega))) | refine Br.l (by first | assumption | omega) ?_ | refine Br.r (by first | assumption | omega) ?_)
  refine ok_call (p8 (N := N + 2) (ws := xs.map fresh) (d := d) (wid := wid) hg (by rw [List.length_map, hx]) (F := .a iid (.c (xs.map w64)) :: .a gid (.c (gL W B)) :: F) (hp := Hp.to)) fun u h' hr => ?_
  obtain ⟨rfl, hr⟩ := hr
  (repeat first | intro _ | refine Stp.to ?_ | refine Lk.mk' rfl ?_ | (apply Sd.mk; case s => first | exact True.intro | omega | ((repeat' apply And.intro) <;> first | exact True.intro | rfl | omega | (simp only [List.length_set, List.length_modify, List.length_take, List.length_drop, List.length_map, List.length_replicate, List.length_append, List.length_cons, List.length_nil]; omega))) | refine Br.l (by first | assumption | omega) ?_ | refine Br.r (by first | assumption | omega) ?_)
  refine ok_call (p9 (N := N + 9) hg) fun u h' hr => ?_
  obtain ⟨fid, rfl, hr⟩ := hr
  refine ok_call (p10 (N := N + 8) (F := .a fid (.c ((fmtL W B).map w64)) :: .a gid (.c (gL W B)) :: F) (ws := (fmtL W B).map fresh) (wid := wid) (n := Nw W B) (by rw [List.length_map, hfl]) (by omega) (by omega) (hp := Hp.to)) fun u h' hr => ?_
  obtain ⟨sid, rfl, hr⟩ := hr
  have hs : ((fmtL W B).map fresh).map Wd.sure = fmtL W B := by
    rw [List.map_map]
    exact List.map_id _
  rw [hs] at hr
  (repeat first | intro _ | refine Stp.to ?_ | refine Lk.mk' rfl ?_ | (apply Sd.mk; case s => first | exact True.intro | omega | ((repeat' apply And.intro) <;> first | exact True.intro | rfl | omega | (simp only [List.length_set, List.length_modify, List.length_take, List.length_drop, List.length_map, List.length_replicate, List.length_append, List.length_cons, List.length_nil]; omega))) | refine Br.l (by first | assumption | omega) ?_ | refine Br.r (by first | assumption | omega) ?_)
  refine ok_call (p11 (N := N + 6) (ws := (fmtL W B).map fresh) (wid := wid) (F := .a sid (.c ((fmtL W B).map w64)) :: .a fid (.c ((fmtL W B).map w64)) :: .a gid (.c (gL W B)) :: F) (by rw [List.length_map, hfl]) (by omega) (fun k hk => by rw [getD_map _ _ _ (by omega)]; rfl) (hp := Hp.to)) fun u h' hr => ?_
  obtain ⟨rfl, hr⟩ := hr
  (repeat first | intro _ | refine Stp.to ?_ | refine Lk.mk' rfl ?_ | (apply Sd.mk; case s => first | exact True.intro | omega | ((repeat' apply And.intro) <;> first | exact True.intro | rfl | omega | (simp only [List.length_set, List.length_modify, List.length_take, List.length_drop, List.length_map, List.length_replicate, List.length_append, List.length_cons, List.length_nil]; omega))) | refine Br.l (by first | assumption | omega) ?_ | refine Br.r (by first | assumption | omega) ?_)
  refine ok_loop (fun k vs h => k ≤ Nw W B ∧ vs = [.ptr gid 0, .ptr d 0, .slice fid 0 (Nw W B) 3, .slice sid 0 (Nw W B) 2, .int .i64 (.ofNat k)] ∧ Hp h (dO d wid (Nw W B) :: wO wid ((fmtL W B).map fresh) :: .a sid (.c ((fmtL W B).map w64)) :: .a fid (.c ((fmtL W B).map w64)) :: .a gid (.c (gL W B)) :: F)) (fun k => Nw W B - k) 0 (by show Nw W B - 0 < 1000000; omega) ⟨by omega, rfl, Hp.to⟩ ?_
  rintro self k vs h ⟨hk, rfl, hp⟩ ih
  rcases Nat.lt_or_eq_of_le hk with hk | hkn
  · (repeat first | intro _ | refine Stp.to ?_ | refine Lk.mk' rfl ?_ | (apply Sd.mk; case s => first | exact True.intro | omega | ((repeat' apply And.intro) <;> first | exact True.intro | rfl | omega | (simp only [List.length_set, List.length_modify, List.length_take, List.length_drop, List.length_map, List.length_replicate, List.length_append, List.length_cons, List.length_nil]; omega))) | refine Br.l (by first | assumption | omega) ?_ | refine Br.r (by first | assumption | omega) ?_)
    exact ih (k + 1) _ _ (by omega) ⟨by omega, by simp, Hp.to⟩
  · rw [hkn]
    (repeat first | intro _ | refine Stp.to ?_ | refine Lk.mk' rfl ?_ | (apply Sd.mk; case s => first | exact True.intro | omega | ((repeat' apply And.intro) <;> first | exact True.intro | rfl | omega | (simp only [List.length_set, List.length_modify, List.length_take, List.length_drop, List.length_map, List.length_replicate, List.length_append, List.length_cons, List.length_nil]; omega))) | refine Br.l (by first | assumption | omega) ?_ | refine Br.r (by first | assumption | omega) ?_)
    refine ok_call (p12 (N := N + 4) hg) fun u h' hr => ?_
    obtain ⟨mid, rfl, hr⟩ := hr
    (repeat first | intro _ | refine Stp.to ?_ | refine Lk.mk' rfl ?_ | (apply Sd.mk; case s => first | exact True.intro | omega | ((repeat' apply And.intro) <;> first | exact True.intro | rfl | omega | (simp only [List.length_set, List.length_modify, List.length_take, List.length_drop, List.length_map, List.length_replicate, List.length_append, List.length_cons, List.length_nil]; omega))) | refine Br.l (by first | assumption | omega) ?_ | refine Br.r (by first | assumption | omega) ?_)
    refine ok_call (p13 (N := N + 9) (B := B) (W := W) (w := W) (d := d)) fun u h' hr => ?_
    obtain ⟨rfl, hr⟩ := hr
    (repeat first | intro _ | refine Stp.to ?_ | refine Lk.mk' rfl ?_ | (apply Sd.mk; case s => first | exact True.intro | omega | ((repeat' apply And.intro) <;> first | exact True.intro | rfl | omega | (simp only [List.length_set, List.length_modify, List.length_take, List.length_drop, List.length_map, List.length_replicate, List.length_append, List.length_cons, List.length_nil]; omega))) | refine Br.l (by first | assumption | omega) ?_ | refine Br.r (by first | assumption | omega) ?_)
    refine ok_call (p14 (N := N + 9) (B := B) (W := W) (w := W) (d := d)) fun u h' hr => ?_
    obtain ⟨rfl, hr⟩ := hr
    (repeat first | intro _ | refine Stp.to ?_ | refine Lk.mk' rfl ?_ | (apply Sd.mk; case s => first | exact True.intro | omega | ((repeat' apply And.intro) <;> first | exact True.intro | rfl | omega | (simp only [List.length_set, List.length_modify, List.length_take, List.length_drop, List.length_map, List.length_replicate, List.length_append, List.length_cons, List.length_nil]; omega))) | refine Br.l (by first | assumption | omega) ?_ | refine Br.r (by first | assumption | omega) ?_)
    have e25 : K.binV ctx .eql 25 false (gv W B) (gv W B) = some (.bool true) := isT_ok (allG_at eqG w1 w4 b1 b4)
    refine Ok.eq (r' := _) ((congrArg (fun o => K.oK o _) e25).trans (K.oK_some _)) ?_
    (repeat first | intro _ | refine Stp.to ?_ | refine Lk.mk' rfl ?_ | (apply Sd.mk; case s => first | exact True.intro | omega | ((repeat' apply And.intro) <;> first | exact True.intro | rfl | omega | (simp only [List.length_set, List.length_modify, List.length_take, List.length_drop, List.length_map, List.length_replicate, List.length_append, List.length_cons, List.length_nil]; omega))) | refine Br.l (by first | assumption | omega) ?_ | refine Br.r (by first | assumption | omega) ?_)
    exact ⟨rfl, Hp.to⟩
/-- the law, of turns that stand in a row -/
theorem law_row {a b : Nat} {ts : List Tn} {tid m tg : Nat} (ha : a < 256) (hb : b < 256) (ht : ∀ t ∈ ts, t.ok) (hm : m ≤ ts.length) (hm2 : m ≤ 9223372036854775807) (htg : tg / 2 = 2) [hp : Hp h (.a tid (.c (ts.flatMap eT)) :: F)] :
    Ok (K.run (tbG (wOfA a) (bOfB b)) ty (N + 12) (.fn 3) [.int .u8 (.ofNat a), .int .u8 (.ofNat b), .slice tid 0 m tg] h) (fun u h' => u = .bool true ∧ Hp h' (.a tid (.c (ts.flatMap eT)) :: F)) := by
  by_cases h60 : m ≤ 60
  · refine lawB ha hb rfl rfl h60 (fun g => rfl) fun h G hp => ?_
    refine Ok.mono (p6 (N := N + 7) (F := G :: F) (geoOf a b) ht hm h60 htg (hp := hp.perm (.swap _ _ _))) ?_
    rintro v h' ⟨id, xs, rfl, hx, _, hq⟩
    exact ⟨id, xs, rfl, hx, hq.perm ((List.Perm.swap _ _ _).cons _)⟩
  · exact lawA (N := N + 10) (by omega) hm2
/-- the law, of no turns -/
theorem law_none {a b : Nat} {v : AV} (ha : a < 256) (hb : b < 256) (hv : v = .nilSlice ∨ ∃ i o tg, v = .slice i o 0 tg) [hp : Hp h F] :
    Ok (K.run (tbG (wOfA a) (bOfB b)) ty (N + 12) (.fn 3) [.int .u8 (.ofNat a), .int .u8 (.ofNat b), v] h) (fun u h' => u = .bool true ∧ Hp h' F) := by
  refine lawB ha hb rfl rfl (m := 0) (by omega) (fun g => by rcases hv with rfl | ⟨i, o, tg, rfl⟩ <;> rfl) fun h G hp => ?_
  exact p6e (N := N + 7) (geoOf a b) hv (hp := hp)
end
end YtbigljebnajniabGreatMfM
