import Derived.Test.YtbigljebnajniaaGreatDoorCnL4
import Derived.Test.YtbigljebnajniaaGreatDoorCnAnc
namespace YtbigljebnajniaaGreatDoorCnM
open Go Am
set_option maxRecDepth 100000
theorem sok4 (hX : ExtOk ctx Go.Proofs.Tryz.prog) (G : Gd) : SOk ctx Go.Proofs.Tryz.prog G ⟨4, 0, K.fnK ctx 4 0, s4⟩ := by
  intro args h v h' hq
  have hq : s4 args h = some (v, h') := hq
  unfold s4 at hq
  split at hq
  · cases hq
    refine ⟨Nat.le_refl _, fun ρ w vs p1 p2 p3 p4 => ?_⟩
    obtain ⟨hf, e⟩ := K.isTrue_ok anchor4
    exact known_run (c := ctx.with (sumOf seL2)) (COk.with cok _) (hX.with _) (sumOk2 hX G) (K.run_leS tbokS2 (TyOk.with tyok _) 200 _ _ _ _ _ e) rfl rfl (by kernel_rfl) ctx h ρ w vs p1 p2 (p3.with _)
  · cases hq
theorem seG3 (s5 s14 : Sum) : ∀ x ∈ seL3 s5 s14, K.fnK ctx x.f x.n = x.g := by
  intro x hx
  unfold seL3 at hx
  simp only [List.mem_cons, List.not_mem_nil, or_false] at hx
  rcases hx with rfl | rfl | rfl
  · dsimp only
  · dsimp only; exact r5_eq
  · dsimp only; exact r14_eq
theorem tbok3 (s5 s14 : Sum) : K.TbOkS (ctx.with (sumOf (seL3 s5 s14))) (tb3 s5 s14) := tbOkS_of tbok rfl (seG3 s5 s14)
theorem sumOk3 {s5 s14 : Sum} (hX : ExtOk ctx Go.Proofs.Tryz.prog) (G : Gd) (h5 : SOk ctx Go.Proofs.Tryz.prog G ⟨5, 1, r5, s5⟩) (h14 : SOk ctx Go.Proofs.Tryz.prog G ⟨14, 1, r14, s14⟩) : SumOk (ctx.with (sumOf (seL3 s5 s14))) Go.Proofs.Tryz.prog G := sumOk_of (fun x hx => by
  unfold seL3 at hx
  simp only [List.mem_cons, List.not_mem_nil, or_false] at hx
  rcases hx with rfl | rfl | rfl
  · exact sok4 hX G
  · exact h5
  · exact h14)
def sNo : Sum := fun _ _ => none
theorem sokNo {P : Go.Program} {G : Gd} {f j : Nat} {g : K.KRun → List AV → H → K.KR} : SOk ctx P G ⟨f, j, g, sNo⟩ := fun args h v h' hq => by cases hq
theorem nilA : K.isTrue (K.run (tb3 sNo s14) ty 200 (.fn 3) [.nilSlice] ⟨0, .e⟩) = true := by kernel_rfl
theorem cap0A : ∃ hf, K.run (tb3 sNo s14) ty 200 (.fn 3) [.slice 0 0 0 2] ⟨1, .e⟩ = .ok (.bool true) hf := K.isTrue_ok (by kernel_rfl)
theorem ex3 (s : T Sum) : (ctx.with s).ext.get 3 = none := by kernel_rfl
/-- the run on a row of words -/
theorem runW (hX : ExtOk ctx Go.Proofs.Tryz.prog) (G : Gd) (n len tag : Nat) (t : T AV) (W : Nat → Int) (hlen : len ≤ n) (htag : tag / 2 = 1) (hW : ∀ k, k < n → t.get k = some (.int .u64 (W k))) :
    ∃ s5 s14 hf, K.run (tb3 s5 s14) ty 200 (.fn 3) [.slice 0 0 len tag] (Am.hW n t) = .ok (.bool true) hf ∧ hf.obj 0 = some (.cells n t) ∧ SumOk (ctx.with (sumOf (seL3 s5 s14))) Go.Proofs.Tryz.prog G := by
  obtain ⟨g, b, h5, e5, f5, l5, c5, z5', o5⟩ := w5 56 n len tag t W hlen htag hW
  have hrig : ∀ k x, k < n → t.get k = some x → rigid x = true := fun k x hk hx => by rw [hW k hk] at hx; cases hx; rfl
  have ok5 : SOk ctx Go.Proofs.Tryz.prog G ⟨5, 1, r5, sW (.tup [.agg g, .bool b]) n t len tag⟩ := by
    obtain ⟨_, q⟩ := run_ok (G := G) cok hX (sumOk0 G) 60 _ _ _ _ _ (K.run_le nosum tbok tyok 60 _ _ _ _ _ e5)
    exact sokW (fun ρ w vs p1 p2 p3 p4 => q ρ w vs p1 p2 p3 p4) (by show AV.flats [.agg g, .bool b] = true; unfold AV.flats AV.flat; rw [f5]; rfl) o5 hrig (by kernel_rfl)
  have ob : (Am.hW n t).obj 0 = some (.cells n t) := rfl
  by_cases h8 : len ≤ 8192
  · cases b with
    | true =>
      obtain ⟨hf, e, gr⟩ := lawB _ sNo 198 len tag (Am.hW n t) g h8 l5 f5 c5 (sW_eq ob)
      exact ⟨_, _, hf, e, by rw [gr.obj 0 Nat.zero_lt_one]; exact ob, sumOk3 hX G ok5 sokNo⟩
    | false =>
      have hz : (AV.tup [.agg g, .bool false]) = z5 := by unfold z5; rw [z5' rfl]
      rw [hz] at ok5
      obtain ⟨hf, e, gr⟩ := lawC (sW z5 n t len tag) (sW z14 n t len tag) 197 len tag (Am.hW n t) h8 (sW_eq ob) (fun h' q => sW_eq (by rw [q.obj 0 Nat.zero_lt_one]; exact ob))
      exact ⟨_, _, hf, e, by rw [gr.obj 0 Nat.zero_lt_one]; exact ob, sumOk3 hX G ok5 (sok14W cok hX (sumOk0 G) ok5 hrig)⟩
  · exact ⟨sNo, sNo, _, lawA sNo sNo 198 len tag (Am.hW n t) h8, ob, sumOk3 hX G sokNo sokNo⟩
end YtbigljebnajniaaGreatDoorCnM
