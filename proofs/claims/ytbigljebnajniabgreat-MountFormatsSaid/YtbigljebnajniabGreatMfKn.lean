/- Functions of a geometry as known calls. -/
import Derived.Test.YtbigljebnajniabGreatMfGeo
import Derived.Test.YtbigljebnajniabGreatA5
namespace YtbigljebnajniabGreatMfM
open Go Am
set_option maxRecDepth 100000
theorem sumNo (G : Gd) : SumOk ctx Go.Proofs.Tryz.prog G := fun f s args h v h' hs => by
  have hs : (T.e : T Sum).get f = some s := hs
  rw [T.get_e] at hs; cases hs
structure Geo (W B : Nat) : Prop where
  w1 : 1 ≤ W
  w4 : W ≤ 4
  b1 : 22 ≤ B
  b4 : B ≤ 60
theorem sok16 {W B : Nat} (hg : Geo W B) (hX : ExtOk ctx Go.Proofs.Tryz.prog) (G : Gd) : SOk ctx Go.Proofs.Tryz.prog G ⟨16, 1, r16, sF [gv W B] (.int .i64 (.ofNat (456 + 208 * W + 8 * B)))⟩ := by
  obtain ⟨h', e⟩ := isN_ok (allG_at g16 hg.w1 hg.w4 hg.b1 hg.b4)
  exact sokF cok hX (sumNo G) (K.run_le nosum tbok tyok 60) e rfl rfl (by kernel_rfl)
theorem sok29 {W B : Nat} (hg : Geo W B) (hX : ExtOk ctx Go.Proofs.Tryz.prog) (G : Gd) : SOk ctx Go.Proofs.Tryz.prog G ⟨29, 1, r29, sF [gv W B] (.bool true)⟩ := by
  obtain ⟨h', e⟩ := isB_ok (allG_at g29 hg.w1 hg.w4 hg.b1 hg.b4)
  exact sokF cok hX (sumNo G) (K.run_le nosum tbok tyok 60) e rfl rfl (by kernel_rfl)
theorem sok35 {W B : Nat} (hg : Geo W B) (hX : ExtOk ctx Go.Proofs.Tryz.prog) (G : Gd) : SOk ctx Go.Proofs.Tryz.prog G ⟨35, 1, r35, sF [gv W B] (.int .i64 (.ofNat (264 + 208 * W)))⟩ := by
  obtain ⟨h', e⟩ := isN_ok (allG_at g35 hg.w1 hg.w4 hg.b1 hg.b4)
  exact sokF cok hX (sumNo G) (K.run_le nosum tbok tyok 60) e rfl rfl (by kernel_rfl)
theorem sok36 {W B : Nat} (hg : Geo W B) (hX : ExtOk ctx Go.Proofs.Tryz.prog) (G : Gd) : SOk ctx Go.Proofs.Tryz.prog G ⟨36, 1, r36, sF [gv W B] (.int .i64 (.ofNat (272 + 208 * W)))⟩ := by
  obtain ⟨h', e⟩ := isN_ok (allG_at g36 hg.w1 hg.w4 hg.b1 hg.b4)
  exact sokF cok hX (sumNo G) (K.run_le nosum tbok tyok 60) e rfl rfl (by kernel_rfl)
theorem sok37 {W B : Nat} (hg : Geo W B) (hX : ExtOk ctx Go.Proofs.Tryz.prog) (G : Gd) : SOk ctx Go.Proofs.Tryz.prog G ⟨37, 2, r37, sF [gv W B, o1] (.int .i64 (.ofNat (296 + 208 * W)))⟩ := by
  obtain ⟨h', e⟩ := isN_ok (allG_at g37 hg.w1 hg.w4 hg.b1 hg.b4)
  exact sokF cok hX (sumNo G) (K.run_le nosum tbok tyok 60) e rfl rfl (by kernel_rfl)
theorem sok57 {W B : Nat} (hg : Geo W B) (hX : ExtOk ctx Go.Proofs.Tryz.prog) (G : Gd) : SOk ctx Go.Proofs.Tryz.prog G ⟨57, 1, r57, sF [gv W B] (.bool true)⟩ := by
  obtain ⟨h', e⟩ := isB_ok (allG_at g57 hg.w1 hg.w4 hg.b1 hg.b4)
  exact sokF cok hX (sumNo G) (K.run_le nosum tbok tyok 60) e rfl rfl (by kernel_rfl)
theorem sok58 {W B : Nat} (hg : Geo W B) (hX : ExtOk ctx Go.Proofs.Tryz.prog) (G : Gd) : SOk ctx Go.Proofs.Tryz.prog G ⟨58, 1, r58, sF [gv W B] (.int .i64 (.ofNat (456 + 208 * W + 8 * B)))⟩ := by
  obtain ⟨h', e⟩ := isN_ok (allG_at g58 hg.w1 hg.w4 hg.b1 hg.b4)
  exact sokF cok hX (sumNo G) (K.run_le nosum tbok tyok 60) e rfl rfl (by kernel_rfl)
theorem sok59 {W B : Nat} (hg : Geo W B) (hX : ExtOk ctx Go.Proofs.Tryz.prog) (G : Gd) : SOk ctx Go.Proofs.Tryz.prog G ⟨59, 1, r59, sF [gv W B] (.int .i64 (.ofNat (264 + 208 * W)))⟩ := by
  obtain ⟨h', e⟩ := isN_ok (allG_at g59 hg.w1 hg.w4 hg.b1 hg.b4)
  exact sokF cok hX (sumNo G) (K.run_le nosum tbok tyok 60) e rfl rfl (by kernel_rfl)
theorem sok60 {W B : Nat} (hg : Geo W B) (hX : ExtOk ctx Go.Proofs.Tryz.prog) (G : Gd) : SOk ctx Go.Proofs.Tryz.prog G ⟨60, 1, r60, sF [gv W B] (.int .i64 (.ofNat (272 + 208 * W)))⟩ := by
  obtain ⟨h', e⟩ := isN_ok (allG_at g60 hg.w1 hg.w4 hg.b1 hg.b4)
  exact sokF cok hX (sumNo G) (K.run_le nosum tbok tyok 60) e rfl rfl (by kernel_rfl)
theorem sok61 {W B : Nat} (hg : Geo W B) (hX : ExtOk ctx Go.Proofs.Tryz.prog) (G : Gd) : SOk ctx Go.Proofs.Tryz.prog G ⟨61, 2, r61, sF [gv W B, o1] (.int .i64 (.ofNat (296 + 208 * W)))⟩ := by
  obtain ⟨h', e⟩ := isN_ok (allG_at g61 hg.w1 hg.w4 hg.b1 hg.b4)
  exact sokF cok hX (sumNo G) (K.run_le nosum tbok tyok 60) e rfl rfl (by kernel_rfl)
end YtbigljebnajniabGreatMfM
