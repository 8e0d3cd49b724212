/- The words of a new device. -/
import Derived.Test.YtbigljebnajniabGreatMfW5
namespace YtbigljebnajniabGreatMfM
open Go Am
set_option maxRecDepth 100000
def Nw (W B : Nat) : Nat := 456 + 208 * W + 8 * B
def fmtL (W B : Nat) : List Nat := ((((((((List.replicate (Nw W B) 0).set 0 32762617960297063).set 1 W).set 2 11).set 3 B).set (264 + 208 * W) 3).set (272 + 208 * W) 1).set (296 + 208 * W) 2).set (296 + 208 * W + 1) 1
section
variable {L F r1 r2 : List As} {h : H} {Q : AV → H → Prop} {f : AV → H → K.KR} {N W B : Nat}
theorem p26 (hg : Geo W B) [hp : Hp h F] : Ok (K.run (tbG W B) ty (N + 2) (.fn 26) [.agg [.int .i64 (.ofNat W), .int .i64 (.ofNat 11), .int .i64 (.ofNat B)]] h) (fun u h' => ∃ id, u = .slice id 0 (Nw W B) 3 ∧ Hp h' (.a id (.c ((fmtL W B).map w64)) :: F)) := by
  obtain ⟨w1, w4, b1, b4⟩ := hg
  rw [u26]; unfold r26
  (repeat first | intro _ | refine Stp.to ?_ | refine Lk.mk' rfl ?_ | (apply Sd.mk; case s => first | exact True.intro | omega | ((repeat' apply And.intro) <;> first | exact True.intro | rfl | omega | (simp only [List.length_set, List.length_modify, List.length_take, List.length_drop, List.length_map, List.length_replicate, List.length_append, List.length_cons, List.length_nil]; omega))) | refine Br.l (by first | assumption | omega) ?_ | refine Br.r (by first | assumption | omega) ?_)
  refine ⟨_, rfl, ?_⟩
  have e1 : W % 18446744073709551616 = W := Nat.mod_eq_of_lt (by omega)
  have e2 : B % 18446744073709551616 = B := Nat.mod_eq_of_lt (by omega)
  rename_i h9 hp9
  rw [e1, e2, show 11 % 18446744073709551616 = 11 from rfl] at hp9
  unfold fmtL Nw
  exact Hp.to
theorem p9 (hg : Geo W B) [hp : Hp h F] : Ok (K.run (tbG W B) ty (N + 2) (.fn 9) [.agg [.int .i64 (.ofNat W), .int .i64 (.ofNat 11), .int .i64 (.ofNat B)]] h) (fun u h' => ∃ id, u = .slice id 0 (Nw W B) 3 ∧ Hp h' (.a id (.c ((fmtL W B).map w64)) :: F)) := by
  obtain ⟨w1, w4, b1, b4⟩ := hg
  have e1 : (W : Int) % 18446744073709551616 = W := by omega
  have e2 : (B : Int) % 18446744073709551616 = B := by omega
  rw [u9]; unfold r9
  (repeat first | intro _ | refine Stp.to ?_ | refine Lk.mk' rfl ?_ | (apply Sd.mk; case s => first | exact True.intro | omega | ((repeat' apply And.intro) <;> first | exact True.intro | rfl | omega | (simp only [List.length_set, List.length_modify, List.length_take, List.length_drop, List.length_map, List.length_replicate, List.length_append, List.length_cons, List.length_nil]; omega))) | refine Br.l (by first | assumption | omega) ?_ | refine Br.r (by first | assumption | omega) ?_)
  rw [cp9a]
  refine ok_cpy rfl rfl (by omega) rfl (by simp; omega) rfl ?_
  rw [putL_cons (by simp; omega), putL_cons (by simp; omega), putL_cons (by simp; omega), putL_cons (by simp; omega), putL_nil]
  have key : (((((List.replicate (456 + 208 * W + 8 * B) 0).map w64).set 0 (.int .u64 (Int.ofNat 32762617960297063))).set (0 + 1) (.int .u64 (↑W % 18446744073709551616))).set (0 + 1 + 1) (.int .u64 (((11 : Nat) : Int) % 18446744073709551616))).set (0 + 1 + 1 + 1) (.int .u64 (↑B % 18446744073709551616)) = (((((List.replicate (456 + 208 * W + 8 * B) 0).set 0 32762617960297063).set 1 W).set 2 11).set 3 B).map w64 := by
    rw [e1, e2]
    simp only [List.map_set]
    rfl
  rw [key]
  (repeat first | intro _ | refine Stp.to ?_ | refine Lk.mk' rfl ?_ | (apply Sd.mk; case s => first | exact True.intro | omega | ((repeat' apply And.intro) <;> first | exact True.intro | rfl | omega | (simp only [List.length_set, List.length_modify, List.length_take, List.length_drop, List.length_map, List.length_replicate, List.length_append, List.length_cons, List.length_nil]; omega))) | refine Br.l (by first | assumption | omega) ?_ | refine Br.r (by first | assumption | omega) ?_)
  rw [cp9b]
  refine ok_cpy (by rfl) (by rfl) (by omega) rfl (by simp; omega) rfl ?_
  rw [putL_cons (by simp; omega), putL_cons (by simp; omega), putL_nil]
  have key : (((((((((List.replicate (456 + 208 * W + 8 * B) 0).set 0 32762617960297063).set 1 W).set 2 11).set 3 B).set (264 + 208 * W) 3).set (272 + 208 * W) 1).map w64).set (296 + 208 * W) (.int .u64 (Int.ofNat 2))).set (296 + 208 * W + 1) (.int .u64 (Int.ofNat 1)) = (fmtL W B).map w64 := by
    unfold fmtL Nw
    simp only [List.map_set]
  rw [Nat.zero_add, Nat.mul_one, key]
  (repeat first | intro _ | refine Stp.to ?_ | refine Lk.mk' rfl ?_ | (apply Sd.mk; case s => first | exact True.intro | omega | ((repeat' apply And.intro) <;> first | exact True.intro | rfl | omega | (simp only [List.length_set, List.length_modify, List.length_take, List.length_drop, List.length_map, List.length_replicate, List.length_append, List.length_cons, List.length_nil]; omega))) | refine Br.l (by first | assumption | omega) ?_ | refine Br.r (by first | assumption | omega) ?_)
  exact ⟨_, rfl, Hp.to⟩
theorem p32 {I : Nat → List As} {fv : AV} {n : Nat} (hn : n ≤ 65536)
    (hf : ∀ k h (g : AV → H → K.KR) Q', k < n → Hp h (I k) → (∀ h', Hp h' (I (k + 1)) → Ok (g (.int .i64 (.ofNat 0)) h') Q') → Ok (K.callVK (K.run (tbG W B) ty N) fv [.int .i64 k] h g) Q') [hp : Hp h (I 0)] :
    Ok (K.run (tbG W B) ty (N + 1) (.fn 32) [.int .i64 n, fv] h) (fun u h' => u = .int .i64 (.ofNat 0) ∧ Hp h' (I n)) := by
  rw [u32]; unfold r32
  (repeat first | intro _ | refine Stp.to ?_ | refine Lk.mk' rfl ?_ | (apply Sd.mk; case s => first | exact True.intro | omega | ((repeat' apply And.intro) <;> first | exact True.intro | rfl | omega | (simp only [List.length_set, List.length_modify, List.length_take, List.length_drop, List.length_map, List.length_replicate, List.length_append, List.length_cons, List.length_nil]; omega))) | refine Br.l (by first | assumption | omega) ?_ | refine Br.r (by first | assumption | omega) ?_)
  refine ok_loop (fun k vs h => k ≤ n ∧ vs = [fv, .int .i64 n, .int .i64 k] ∧ Hp h (I k)) (fun k => n - k) 0 (by show n - 0 < 1000000; omega) ⟨by omega, rfl, hp⟩ ?_
  rintro self k vs h ⟨hk, rfl, hp⟩ ih
  rcases Nat.lt_or_eq_of_le hk with hk | rfl
  · (repeat first | intro _ | refine Stp.to ?_ | refine Lk.mk' rfl ?_ | (apply Sd.mk; case s => first | exact True.intro | omega | ((repeat' apply And.intro) <;> first | exact True.intro | rfl | omega | (simp only [List.length_set, List.length_modify, List.length_take, List.length_drop, List.length_map, List.length_replicate, List.length_append, List.length_cons, List.length_nil]; omega))) | refine Br.l (by first | assumption | omega) ?_ | refine Br.r (by first | assumption | omega) ?_)
    refine hf k _ _ _ hk hp fun h' hp' => ?_
    (repeat first | intro _ | refine Stp.to ?_ | refine Lk.mk' rfl ?_ | (apply Sd.mk; case s => first | exact True.intro | omega | ((repeat' apply And.intro) <;> first | exact True.intro | rfl | omega | (simp only [List.length_set, List.length_modify, List.length_take, List.length_drop, List.length_map, List.length_replicate, List.length_append, List.length_cons, List.length_nil]; omega))) | refine Br.l (by first | assumption | omega) ?_ | refine Br.r (by first | assumption | omega) ?_)
    exact ih (k + 1) _ _ (by omega) ⟨by omega, by simp, hp'⟩
  · (repeat first | intro _ | refine Stp.to ?_ | refine Lk.mk' rfl ?_ | (apply Sd.mk; case s => first | exact True.intro | omega | ((repeat' apply And.intro) <;> first | exact True.intro | rfl | omega | (simp only [List.length_set, List.length_modify, List.length_take, List.length_drop, List.length_map, List.length_replicate, List.length_append, List.length_cons, List.length_nil]; omega))) | refine Br.l (by first | assumption | omega) ?_ | refine Br.r (by first | assumption | omega) ?_)
    exact ⟨rfl, hp⟩
/-- a row gone through from its end -/
theorem p66 {I : Nat → List As} {l b sid n tg : Nat} {xs : List Nat} (hn : n ≤ 65536) (hl : n = xs.length)
    (hf : ∀ k h, k < n → Hp h (.a b (.c [.slice sid 0 n tg]) :: .a sid (.c (xs.map w64)) :: I (k + 1)) → Ok (K.run (tbG W B) ty N (.yield l) [.int .i64 k, w64 (xs.getD k default)] h) fun v h' => v = .bool true ∧ Hp h' (.a b (.c [.slice sid 0 n tg]) :: .a sid (.c (xs.map w64)) :: I k))
    (ht : tg / 2 = 1) [hp : Hp h (.a b (.c [.slice sid 0 n tg]) :: .a sid (.c (xs.map w64)) :: I n)] :
    Ok (K.run (tbG W B) ty (N + 1) (.fn 66) [.yield l, .ptr b 0] h) (fun u h' => u = .tup [] ∧ Hp h' (.a b (.c [.slice sid 0 n tg]) :: .a sid (.c (xs.map w64)) :: I 0)) := by
  rw [u66]; unfold r66
  (repeat first | intro _ | refine Stp.to ?_ | refine Lk.mk' rfl ?_ | (apply Sd.mk; case s => first | exact True.intro | omega | ((repeat' apply And.intro) <;> first | exact True.intro | rfl | omega | (simp only [List.length_set, List.length_modify, List.length_take, List.length_drop, List.length_map, List.length_replicate, List.length_append, List.length_cons, List.length_nil]; omega))) | refine Br.l (by first | assumption | omega) ?_ | refine Br.r (by first | assumption | omega) ?_)
  refine ok_loop (fun k vs h => k ≤ n ∧ vs = [.yield l, .ptr b 0, .int .i64 ((k : Int) - 1)] ∧ Hp h (.a b (.c [.slice sid 0 n tg]) :: .a sid (.c (xs.map w64)) :: I k)) (fun k => k) n (by show n < 1000000; omega) ⟨by omega, by simp, hp⟩ ?_
  rintro self k vs h ⟨hk, rfl, hp⟩ ih
  cases k with
  | zero =>
    (repeat first | intro _ | refine Stp.to ?_ | refine Lk.mk' rfl ?_ | (apply Sd.mk; case s => first | exact True.intro | omega | ((repeat' apply And.intro) <;> first | exact True.intro | rfl | omega | (simp only [List.length_set, List.length_modify, List.length_take, List.length_drop, List.length_map, List.length_replicate, List.length_append, List.length_cons, List.length_nil]; omega))) | refine Br.l (by first | assumption | omega) ?_ | refine Br.r (by first | assumption | omega) ?_)
    exact ⟨rfl, hp⟩
  | succ k =>
    rw [show ((k + 1 : Nat) : Int) - 1 = (k : Int) by omega]
    (repeat first | intro _ | refine Stp.to ?_ | refine Lk.mk' rfl ?_ | (apply Sd.mk; case s => first | exact True.intro | omega | ((repeat' apply And.intro) <;> first | exact True.intro | rfl | omega | (simp only [List.length_set, List.length_modify, List.length_take, List.length_drop, List.length_map, List.length_replicate, List.length_append, List.length_cons, List.length_nil]; omega))) | refine Br.l (by first | assumption | omega) ?_ | refine Br.r (by first | assumption | omega) ?_)
    refine ok_callY (hf k _ (by omega) ‹_›) ?_
    rintro v h' ⟨rfl, hp'⟩
    (repeat first | intro _ | refine Stp.to ?_ | refine Lk.mk' rfl ?_ | (apply Sd.mk; case s => first | exact True.intro | omega | ((repeat' apply And.intro) <;> first | exact True.intro | rfl | omega | (simp only [List.length_set, List.length_modify, List.length_take, List.length_drop, List.length_map, List.length_replicate, List.length_append, List.length_cons, List.length_nil]; omega))) | refine Br.l (by first | assumption | omega) ?_ | refine Br.r (by first | assumption | omega) ?_)
    exact ih k _ _ (by omega) ⟨by omega, by simp, hp'⟩
end
end YtbigljebnajniabGreatMfM
