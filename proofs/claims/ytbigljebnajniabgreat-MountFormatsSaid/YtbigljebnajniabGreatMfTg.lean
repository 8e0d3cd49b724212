/- The table with the functions of a geometry as known calls. -/
import Derived.Test.YtbigljebnajniabGreatMfKn
import Derived.Test.YtbigljebnajniabGreatMfAnc
import Derived.Test.YtbigljebnajniabGreatA5
namespace YtbigljebnajniabGreatMfM
open Go Am
set_option maxRecDepth 100000
noncomputable def seG (W B : Nat) : List SE := [⟨16, 1, r16, sF [gv W B] (.int .i64 (.ofNat (456 + 208 * W + 8 * B)))⟩, ⟨29, 1, r29, sF [gv W B] (.bool true)⟩, ⟨35, 1, r35, sF [gv W B] (.int .i64 (.ofNat (264 + 208 * W)))⟩, ⟨36, 1, r36, sF [gv W B] (.int .i64 (.ofNat (272 + 208 * W)))⟩, ⟨37, 2, r37, sF [gv W B, o1] (.int .i64 (.ofNat (296 + 208 * W)))⟩, ⟨57, 1, r57, sF [gv W B] (.bool true)⟩, ⟨58, 1, r58, sF [gv W B] (.int .i64 (.ofNat (456 + 208 * W + 8 * B)))⟩, ⟨59, 1, r59, sF [gv W B] (.int .i64 (.ofNat (264 + 208 * W)))⟩, ⟨60, 1, r60, sF [gv W B] (.int .i64 (.ofNat (272 + 208 * W)))⟩, ⟨61, 2, r61, sF [gv W B, o1] (.int .i64 (.ofNat (296 + 208 * W)))⟩, ⟨4, 0, K.fnK ctx 4 0, sF [] (.bool true)⟩]
noncomputable def tbG (W B : Nat) : T K.FnC := tbOf tb (seG W B)
theorem sok4 (hX : ExtOk ctx Go.Proofs.Tryz.prog) (G : Gd) : SOk ctx Go.Proofs.Tryz.prog G ⟨4, 0, K.fnK ctx 4 0, sF [] (.bool true)⟩ := by
  obtain ⟨h', e⟩ := K.isTrue_ok anchor4
  exact sokF cok hX (sumNo G) (K.run_le nosum tbok tyok 200) e rfl rfl (by kernel_rfl)
theorem seGe (W B : Nat) : ∀ x ∈ seG W B, K.fnK ctx x.f x.n = x.g := by
  intro x hx
  unfold seG at hx
  simp only [List.mem_cons, List.not_mem_nil, or_false] at hx
  rcases hx with rfl | rfl | rfl | rfl | rfl | rfl | rfl | rfl | rfl | rfl | rfl
  · dsimp only; exact r16_eq
  · dsimp only; exact r29_eq
  · dsimp only; exact r35_eq
  · dsimp only; exact r36_eq
  · dsimp only; exact r37_eq
  · dsimp only; exact r57_eq
  · dsimp only; exact r58_eq
  · dsimp only; exact r59_eq
  · dsimp only; exact r60_eq
  · dsimp only; exact r61_eq
  · dsimp only
theorem sokG {W B : Nat} (hg : Geo W B) (hX : ExtOk ctx Go.Proofs.Tryz.prog) (G : Gd) : ∀ x ∈ seG W B, SOk ctx Go.Proofs.Tryz.prog G x := by
  intro x hx
  unfold seG at hx
  simp only [List.mem_cons, List.not_mem_nil, or_false] at hx
  rcases hx with rfl | rfl | rfl | rfl | rfl | rfl | rfl | rfl | rfl | rfl | rfl
  · exact sok16 hg hX G
  · exact sok29 hg hX G
  · exact sok35 hg hX G
  · exact sok36 hg hX G
  · exact sok37 hg hX G
  · exact sok57 hg hX G
  · exact sok58 hg hX G
  · exact sok59 hg hX G
  · exact sok60 hg hX G
  · exact sok61 hg hX G
  · exact sok4 hX G
theorem tbokG (W B : Nat) : K.TbOkS (ctx.with (sumOf (seG W B))) (tbG W B) := tbOkS_of tbok rfl (seGe W B)
theorem kg16 (W B n : Nat) (h : H) : K.run (tbG W B) ty (n + 1) (.fn 16) [gv W B] h = .ok (.int .i64 (.ofNat (456 + 208 * W + 8 * B))) h := by
  have q : K.run (tbG W B) ty (n + 1) (.fn 16) [gv W B] h = K.sumFK (sF [gv W B] (.int .i64 (.ofNat (456 + 208 * W + 8 * B)))) r16 (K.run (tbG W B) ty n) [gv W B] h := by kernel_rfl
  rw [q]
  unfold K.sumFK
  rw [sF_eq]
theorem kg29 (W B n : Nat) (h : H) : K.run (tbG W B) ty (n + 1) (.fn 29) [gv W B] h = .ok (.bool true) h := by
  have q : K.run (tbG W B) ty (n + 1) (.fn 29) [gv W B] h = K.sumFK (sF [gv W B] (.bool true)) r29 (K.run (tbG W B) ty n) [gv W B] h := by kernel_rfl
  rw [q]
  unfold K.sumFK
  rw [sF_eq]
theorem kg35 (W B n : Nat) (h : H) : K.run (tbG W B) ty (n + 1) (.fn 35) [gv W B] h = .ok (.int .i64 (.ofNat (264 + 208 * W))) h := by
  have q : K.run (tbG W B) ty (n + 1) (.fn 35) [gv W B] h = K.sumFK (sF [gv W B] (.int .i64 (.ofNat (264 + 208 * W)))) r35 (K.run (tbG W B) ty n) [gv W B] h := by kernel_rfl
  rw [q]
  unfold K.sumFK
  rw [sF_eq]
theorem kg36 (W B n : Nat) (h : H) : K.run (tbG W B) ty (n + 1) (.fn 36) [gv W B] h = .ok (.int .i64 (.ofNat (272 + 208 * W))) h := by
  have q : K.run (tbG W B) ty (n + 1) (.fn 36) [gv W B] h = K.sumFK (sF [gv W B] (.int .i64 (.ofNat (272 + 208 * W)))) r36 (K.run (tbG W B) ty n) [gv W B] h := by kernel_rfl
  rw [q]
  unfold K.sumFK
  rw [sF_eq]
theorem kg37 (W B n : Nat) (h : H) : K.run (tbG W B) ty (n + 1) (.fn 37) [gv W B, o1] h = .ok (.int .i64 (.ofNat (296 + 208 * W))) h := by
  have q : K.run (tbG W B) ty (n + 1) (.fn 37) [gv W B, o1] h = K.sumFK (sF [gv W B, o1] (.int .i64 (.ofNat (296 + 208 * W)))) r37 (K.run (tbG W B) ty n) [gv W B, o1] h := by kernel_rfl
  rw [q]
  unfold K.sumFK
  rw [sF_eq]
theorem kg57 (W B n : Nat) (h : H) : K.run (tbG W B) ty (n + 1) (.fn 57) [gv W B] h = .ok (.bool true) h := by
  have q : K.run (tbG W B) ty (n + 1) (.fn 57) [gv W B] h = K.sumFK (sF [gv W B] (.bool true)) r57 (K.run (tbG W B) ty n) [gv W B] h := by kernel_rfl
  rw [q]
  unfold K.sumFK
  rw [sF_eq]
theorem kg58 (W B n : Nat) (h : H) : K.run (tbG W B) ty (n + 1) (.fn 58) [gv W B] h = .ok (.int .i64 (.ofNat (456 + 208 * W + 8 * B))) h := by
  have q : K.run (tbG W B) ty (n + 1) (.fn 58) [gv W B] h = K.sumFK (sF [gv W B] (.int .i64 (.ofNat (456 + 208 * W + 8 * B)))) r58 (K.run (tbG W B) ty n) [gv W B] h := by kernel_rfl
  rw [q]
  unfold K.sumFK
  rw [sF_eq]
theorem kg59 (W B n : Nat) (h : H) : K.run (tbG W B) ty (n + 1) (.fn 59) [gv W B] h = .ok (.int .i64 (.ofNat (264 + 208 * W))) h := by
  have q : K.run (tbG W B) ty (n + 1) (.fn 59) [gv W B] h = K.sumFK (sF [gv W B] (.int .i64 (.ofNat (264 + 208 * W)))) r59 (K.run (tbG W B) ty n) [gv W B] h := by kernel_rfl
  rw [q]
  unfold K.sumFK
  rw [sF_eq]
theorem kg60 (W B n : Nat) (h : H) : K.run (tbG W B) ty (n + 1) (.fn 60) [gv W B] h = .ok (.int .i64 (.ofNat (272 + 208 * W))) h := by
  have q : K.run (tbG W B) ty (n + 1) (.fn 60) [gv W B] h = K.sumFK (sF [gv W B] (.int .i64 (.ofNat (272 + 208 * W)))) r60 (K.run (tbG W B) ty n) [gv W B] h := by kernel_rfl
  rw [q]
  unfold K.sumFK
  rw [sF_eq]
theorem kg61 (W B n : Nat) (h : H) : K.run (tbG W B) ty (n + 1) (.fn 61) [gv W B, o1] h = .ok (.int .i64 (.ofNat (296 + 208 * W))) h := by
  have q : K.run (tbG W B) ty (n + 1) (.fn 61) [gv W B, o1] h = K.sumFK (sF [gv W B, o1] (.int .i64 (.ofNat (296 + 208 * W)))) r61 (K.run (tbG W B) ty n) [gv W B, o1] h := by kernel_rfl
  rw [q]
  unfold K.sumFK
  rw [sF_eq]
theorem kg4 (W B n : Nat) (h : H) : K.run (tbG W B) ty (n + 1) (.fn 4) [] h = .ok (.bool true) h := by
  have q : K.run (tbG W B) ty (n + 1) (.fn 4) [] h = K.sumFK (sF [] (.bool true)) (K.fnK ctx 4 0) (K.run (tbG W B) ty n) [] h := by kernel_rfl
  rw [q]
  unfold K.sumFK
  rw [sF_eq]
theorem ug26 (W B n : Nat) (args : List AV) (h : H) : K.run (tbG W B) ty (n + 1) (.fn 26) args h = r26 (K.run (tbG W B) ty n) args h := by kernel_rfl
theorem ug9 (W B n : Nat) (args : List AV) (h : H) : K.run (tbG W B) ty (n + 1) (.fn 9) args h = r9 (K.run (tbG W B) ty n) args h := by kernel_rfl
end YtbigljebnajniabGreatMfM
