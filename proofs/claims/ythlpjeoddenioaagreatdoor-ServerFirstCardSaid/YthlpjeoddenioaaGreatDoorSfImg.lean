/- An image. -/
import Derived.Test.YthlpjeoddenioaaGreatDoorSfGeo4
namespace YthlpjeoddenioaaGreatDoorSfM
open Go Am
set_option maxRecDepth 100000
structure Tn where
  at_ : Nat
  w : Nat
  deriving Inhabited
abbrev eT (t : Tn) : List AV := [.int .u16 (.ofNat t.at_), w64 t.w]
instance es_T : Es eT 2 := ⟨by decide, fun a => ⟨rfl, rfl⟩⟩
def Tn.ok (t : Tn) : Prop := t.at_ < 65536 ∧ t.w < 18446744073709551616
theorem mn6z (run : K.KRun) (n : Nat) (h : H) (g : AV → H → K.KR) : K.slowK ctx run (K.opAt Go.Proofs.Tryz.f6 6 7) [42, 44] [.int .i64 ((0 : Nat) : Int), .int .i64 (.ofNat n)] h g = g (.int .i64 (.ofNat 0)) h := by
  have e : K.slowK ctx run (K.opAt Go.Proofs.Tryz.f6 6 7) [42, 44] [.int .i64 ((0 : Nat) : Int), .int .i64 (.ofNat n)] h g = K.rK (.ok (.int .i64 (.ofNat 0), h)) g := by kernel_rfl
  rw [e, K.rK_of]
section
variable {L F r1 r2 : List As} {h : H} {Q : AV → H → Prop} {f : AV → H → K.KR} {N W I B : Nat}
theorem fmt_lt {W I B : Nat} (hg : mayI W I B) : ∀ x ∈ fmtG W I B, x < 18446744073709551616 := by
  have ⟨⟨w1, w4⟩, ⟨i1, i4⟩, ⟨b1, b4⟩⟩ := hg
  intro x hxm
  unfold fmtG at hxm
  rcases List.mem_or_eq_of_mem_set hxm with hxm | rfl
  rcases List.mem_or_eq_of_mem_set hxm with hxm | rfl
  rcases List.mem_or_eq_of_mem_set hxm with hxm | rfl
  rcases List.mem_or_eq_of_mem_set hxm with hxm | rfl
  rcases List.mem_or_eq_of_mem_set hxm with hxm | rfl
  rcases List.mem_or_eq_of_mem_set hxm with hxm | rfl
  rcases List.mem_or_eq_of_mem_set hxm with hxm | rfl
  rcases List.mem_or_eq_of_mem_set hxm with hxm | rfl
  · rw [List.eq_of_mem_replicate hxm]; omega
  all_goals omega
theorem p6 {ts : List Tn} {tid m tg : Nat} (hg : mayI W I B) (ht : ∀ t ∈ ts, t.ok) (hm : m ≤ ts.length) (h60 : m ≤ 60) (htg : tg / 2 = 2) [hp : Hp h (.a tid (.c (ts.flatMap eT)) :: F)] :
    Ok (K.run tbS ty (N + 5) (.fn 6) [.agg [.int .i64 W, .int .i64 I, .int .i64 B], .slice tid 0 m tg, .int .u16 (.ofNat 0)] h)
      (fun u h' => ∃ id, ∃ xs : List Nat, u = .slice id 0 (Nn W I B) 3 ∧ xs.length = Nn W I B ∧ (∀ x ∈ xs, x < 18446744073709551616) ∧ Hp h' (.a id (.c (xs.map w64)) :: .a tid (.c (ts.flatMap eT)) :: F)) := by
  have ⟨⟨w1, w4⟩, ⟨i1, i4⟩, ⟨b1, b4⟩⟩ := hg
  have hN : Nn W I B = 280 + 208 * W + 16 * I + 8 * B := rfl
  rw [u6]; unfold r6
  (repeat first | intro _ | refine Stp.to ?_ | refine Lk.mk' rfl ?_ | (apply Sd.mk; case s => first | exact True.intro | omega | ((repeat' apply And.intro) <;> first | exact True.intro | rfl | omega | (simp only [ll]; omega))) | refine Br.l (by first | assumption | omega) ?_ | refine Br.r (by first | assumption | omega) ?_)
  refine ok_call (m26 (N := N) hg) ?_
  rintro v h' ⟨iid, rfl, hp1⟩
  (repeat first | intro _ | refine Stp.to ?_ | refine Lk.mk' rfl ?_ | (apply Sd.mk; case s => first | exact True.intro | omega | ((repeat' apply And.intro) <;> first | exact True.intro | rfl | omega | (simp only [ll]; omega))) | refine Br.l (by first | assumption | omega) ?_ | refine Br.r (by first | assumption | omega) ?_)
  refine ok_loop (fun k vs h => k ≤ m ∧ vs = [.slice tid 0 m tg, .int .u16 (.ofNat 0), .slice iid 0 (Nn W I B) 3, .int .i64 (.ofNat k)] ∧ ∃ xs : List Nat, xs.length = Nn W I B ∧ (∀ x ∈ xs, x < 18446744073709551616) ∧ Hp h (.a iid (.c (xs.map w64)) :: .a tid (.c (ts.flatMap eT)) :: F)) (fun k => m - k) 0 (by show m - 0 < 1000000; omega)
    ⟨by omega, rfl, fmtG W I B, by simp [fmtG, Nn], ?_, Hp.to⟩ ?_
  · exact fmt_lt hg
  rintro self k vs h ⟨hk, rfl, xs, hx, hxs, hp⟩ ih
  rcases Nat.lt_or_eq_of_le hk with hk | hkm
  · have hk' : k < ts.length := by omega
    have hto := getD_all ht hk'
    obtain ⟨ho1, ho2⟩ := hto
    have hmod : (ts.getD k default).at_ % Nn W I B < Nn W I B := Nat.mod_lt _ (by omega)
    (repeat first | intro _ | refine Stp.to ?_ | refine Lk.mk' rfl ?_ | (apply Sd.mk; case s => first | exact True.intro | omega | ((repeat' apply And.intro) <;> first | exact True.intro | rfl | omega | (simp only [ll]; omega))) | refine Br.l (by first | assumption | omega) ?_ | refine Br.r (by first | assumption | omega) ?_)
    refine ih (k + 1) _ _ (by omega) ⟨by omega, by simp, xs.set ((ts.getD k default).at_ % Nn W I B) (ts.getD k default).w, ?_, ?_, Hp.to⟩
    · rw [List.length_set]; exact hx
    · intro x hxm
      rcases List.mem_or_eq_of_mem_set hxm with hxm | rfl
      · exact hxs x hxm
      · exact ho2
  · rw [hkm]
    (repeat first | intro _ | refine Stp.to ?_ | refine Lk.mk' rfl ?_ | (apply Sd.mk; case s => first | exact True.intro | omega | ((repeat' apply And.intro) <;> first | exact True.intro | rfl | omega | (simp only [ll]; omega))) | refine Br.l (by first | assumption | omega) ?_ | refine Br.r (by first | assumption | omega) ?_)
    rw [mn6z]
    (repeat first | intro _ | refine Stp.to ?_ | refine Lk.mk' rfl ?_ | (apply Sd.mk; case s => first | exact True.intro | omega | ((repeat' apply And.intro) <;> first | exact True.intro | rfl | omega | (simp only [ll]; omega))) | refine Br.l (by first | assumption | omega) ?_ | refine Br.r (by first | assumption | omega) ?_)
    rename_i tg1 ht1 ht2
    rw [ht2 (by omega)]
    exact ⟨iid, xs, by rfl, hx, hxs, Hp.to⟩
theorem p6e {v : AV} (hg : mayI W I B) (hv : v = .nilSlice ∨ ∃ i o tg, v = .slice i o 0 tg) [hp : Hp h F] :
    Ok (K.run tbS ty (N + 5) (.fn 6) [.agg [.int .i64 W, .int .i64 I, .int .i64 B], v, .int .u16 (.ofNat 0)] h)
      (fun u h' => ∃ id, ∃ xs : List Nat, u = .slice id 0 (Nn W I B) 3 ∧ xs.length = Nn W I B ∧ (∀ x ∈ xs, x < 18446744073709551616) ∧ Hp h' (.a id (.c (xs.map w64)) :: F)) := by
  have ⟨⟨w1, w4⟩, ⟨i1, i4⟩, ⟨b1, b4⟩⟩ := hg
  have hN : Nn W I B = 280 + 208 * W + 16 * I + 8 * B := rfl
  have hl : ∀ g : AV → K.KR, K.lenVK v g = g (.int .i64 (.ofNat 0)) := fun g => by
    rcases hv with rfl | ⟨i, o, tg, rfl⟩ <;> rfl
  rw [u6]; unfold r6
  (repeat first | intro _ | refine Stp.to ?_ | refine Lk.mk' rfl ?_ | (apply Sd.mk; case s => first | exact True.intro | omega | ((repeat' apply And.intro) <;> first | exact True.intro | rfl | omega | (simp only [ll]; omega))) | refine Br.l (by first | assumption | omega) ?_ | refine Br.r (by first | assumption | omega) ?_)
  refine ok_call (m26 (N := N) hg) ?_
  rintro v h' ⟨iid, rfl, hp1⟩
  (repeat first | intro _ | refine Stp.to ?_ | refine Lk.mk' rfl ?_ | (apply Sd.mk; case s => first | exact True.intro | omega | ((repeat' apply And.intro) <;> first | exact True.intro | rfl | omega | (simp only [ll]; omega))) | refine Br.l (by first | assumption | omega) ?_ | refine Br.r (by first | assumption | omega) ?_)
  refine ok_unroll 999999 ?_
  (repeat first | intro _ | refine Stp.to ?_ | refine Lk.mk' rfl ?_ | (apply Sd.mk; case s => first | exact True.intro | omega | ((repeat' apply And.intro) <;> first | exact True.intro | rfl | omega | (simp only [ll]; omega))) | refine Br.l (by first | assumption | omega) ?_ | refine Br.r (by first | assumption | omega) ?_)
  rw [hl]
  (repeat first | intro _ | refine Stp.to ?_ | refine Lk.mk' rfl ?_ | (apply Sd.mk; case s => first | exact True.intro | omega | ((repeat' apply And.intro) <;> first | exact True.intro | rfl | omega | (simp only [ll]; omega))) | refine Br.l (by first | assumption | omega) ?_ | refine Br.r (by first | assumption | omega) ?_)
  rw [mn6z]
  (repeat first | intro _ | refine Stp.to ?_ | refine Lk.mk' rfl ?_ | (apply Sd.mk; case s => first | exact True.intro | omega | ((repeat' apply And.intro) <;> first | exact True.intro | rfl | omega | (simp only [ll]; omega))) | refine Br.l (by first | assumption | omega) ?_ | refine Br.r (by first | assumption | omega) ?_)
  rename_i tg1 ht1 ht2
  rw [ht2 (by omega)]
  exact ⟨iid, fmtG W I B, by rfl, by simp [fmtG, Nn], fmt_lt hg, Hp.to⟩
end
end YthlpjeoddenioaaGreatDoorSfM
