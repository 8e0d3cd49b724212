/- The geometry of words. -/
import Derived.Test.YthlpjeoddenioaaGreatDoorSfGeo3
namespace YthlpjeoddenioaaGreatDoorSfM
open Go Am
set_option maxRecDepth 100000
/-- are words a device's -/
def isOf (xs : List Nat) : Prop := 8 ≤ xs.length ∧ xs.getD 0 default = 32762617960297063 ∧ xs.getD 1 default ≤ 512 ∧ xs.getD 2 default ≤ 512 ∧ xs.getD 3 default ≤ 512 ∧
  mayI (xs.getD 1 default) (xs.getD 2 default) (xs.getD 3 default) ∧ wordsI (xs.getD 1 default) (xs.getD 2 default) (xs.getD 3 default) ≤ xs.length
theorem mx41 (run : K.KRun) (a b c : Nat) (h : H) (g : AV → H → K.KR) : K.slowK ctx run (K.opAt Go.Proofs.Tryz.f7 1 19) [16, 19, 22] [w64 a, w64 b, w64 c] h g = g (.int .u64 (mxI (mxI a b) c)) h := by
  have e : K.slowK ctx run (K.opAt Go.Proofs.Tryz.f7 1 19) [16, 19, 22] [w64 a, w64 b, w64 c] h g = K.rK (.ok (.int .u64 (mxI (mxI a b) c), h)) g := by kernel_rfl
  rw [e, K.rK_of]
section
variable {L F r1 r2 : List As} {h : H} {Q : AV → H → Prop} {f : AV → H → K.KR} {N : Nat} {x y z x' y' z' i i' : Int}
theorem m41 {sid n tg : Nat} {xs : List Nat} (ht : tg / 2 = 1) (hn : n = xs.length) (hn2 : n ≤ 65536) (hx : ∀ a ∈ xs, a < 18446744073709551616) [hp : Hp h (.a sid (.c (xs.map w64)) :: F)] :
    Ok (K.run tbS ty (N + 4) (.fn 7) [.slice sid 0 n tg] h) (fun u h' => (isOf xs ∧ u = .tup [gI (xs.getD 1 default) (xs.getD 2 default) (xs.getD 3 default), .bool true] ∨ ¬ isOf xs ∧ u = .tup [gI 0 0 0, .bool false]) ∧ Hp h' (.a sid (.c (xs.map w64)) :: F)) := by
  rw [u7]; unfold r7
  by_cases h8 : 8 ≤ xs.length
  · have b1 := getD_all hx (show 1 < xs.length by omega)
    have b2 := getD_all hx (show 2 < xs.length by omega)
    have b3 := getD_all hx (show 3 < xs.length by omega)
    by_cases h0 : xs.getD 0 default = 32762617960297063
    · (repeat first | intro _ | refine Stp.to ?_ | refine Lk.mk' rfl ?_ | (apply Sd.mk; case s => first | exact True.intro | omega | ((repeat' apply And.intro) <;> first | exact True.intro | rfl | omega | (simp only [ll]; omega))) | refine Br.l (by first | assumption | omega) ?_ | refine Br.r (by first | assumption | omega) ?_)
      rw [mx41, mxI_eq, mxI_eq]
      by_cases hmx : xs.getD 1 default ≤ 512 ∧ xs.getD 2 default ≤ 512 ∧ xs.getD 3 default ≤ 512
      · by_cases hm : mayI (xs.getD 1 default) (xs.getD 2 default) (xs.getD 3 default)
        · by_cases hw : wordsI (xs.getD 1 default) (xs.getD 2 default) (xs.getD 3 default) ≤ xs.length
          · (repeat first | intro _ | refine Stp.to ?_ | refine Lk.mk' rfl ?_ | (apply Sd.mk; case s => first | exact True.intro | omega | ((repeat' apply And.intro) <;> first | exact True.intro | rfl | omega | (simp only [ll]; omega))) | refine Br.l (by first | assumption | omega) ?_ | refine Br.r (by first | assumption | omega) ?_)
            exact ⟨.inl ⟨⟨h8, h0, hmx.1, hmx.2.1, hmx.2.2, hm, hw⟩, rfl⟩, Hp.to⟩
          · (repeat first | intro _ | refine Stp.to ?_ | refine Lk.mk' rfl ?_ | (apply Sd.mk; case s => first | exact True.intro | omega | ((repeat' apply And.intro) <;> first | exact True.intro | rfl | omega | (simp only [ll]; omega))) | refine Br.l (by first | assumption | omega) ?_ | refine Br.r (by first | assumption | omega) ?_)
            exact ⟨.inr ⟨fun q => hw q.2.2.2.2.2.2, rfl⟩, Hp.to⟩
        · (repeat first | intro _ | refine Stp.to ?_ | refine Lk.mk' rfl ?_ | (apply Sd.mk; case s => first | exact True.intro | omega | ((repeat' apply And.intro) <;> first | exact True.intro | rfl | omega | (simp only [ll]; omega))) | refine Br.l (by first | assumption | omega) ?_ | refine Br.r (by first | assumption | omega) ?_)
          exact ⟨.inr ⟨fun q => hm q.2.2.2.2.2.1, rfl⟩, Hp.to⟩
      · (repeat first | intro _ | refine Stp.to ?_ | refine Lk.mk' rfl ?_ | (apply Sd.mk; case s => first | exact True.intro | omega | ((repeat' apply And.intro) <;> first | exact True.intro | rfl | omega | (simp only [ll]; omega))) | refine Br.l (by first | assumption | omega) ?_ | refine Br.r (by first | assumption | omega) ?_)
        refine ⟨.inr ⟨fun q => hmx ⟨q.2.2.1, q.2.2.2.1, q.2.2.2.2.1⟩, rfl⟩, Hp.to⟩
    · (repeat first | intro _ | refine Stp.to ?_ | refine Lk.mk' rfl ?_ | (apply Sd.mk; case s => first | exact True.intro | omega | ((repeat' apply And.intro) <;> first | exact True.intro | rfl | omega | (simp only [ll]; omega))) | refine Br.l (by first | assumption | omega) ?_ | refine Br.r (by first | assumption | omega) ?_)
      exact ⟨.inr ⟨fun q => h0 q.2.1, rfl⟩, Hp.to⟩
  · (repeat first | intro _ | refine Stp.to ?_ | refine Lk.mk' rfl ?_ | (apply Sd.mk; case s => first | exact True.intro | omega | ((repeat' apply And.intro) <;> first | exact True.intro | rfl | omega | (simp only [ll]; omega))) | refine Br.l (by first | assumption | omega) ?_ | refine Br.r (by first | assumption | omega) ?_)
    exact ⟨.inr ⟨fun q => h8 q.1, rfl⟩, Hp.to⟩
end
end YthlpjeoddenioaaGreatDoorSfM
