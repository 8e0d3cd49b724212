/- The table with works() as a known call. -/
import Derived.Test.YthlpjeoddenioaaGreatDoorSfTs
import Derived.Test.YthlpjeoddenioaaGreatDoorSfOk
import Derived.Test.YthlpjeoddenioaaGreatDoorSfAnc
import Derived.Test.YthlpjeoddenioaaGreatDoorA5
namespace YthlpjeoddenioaaGreatDoorSfM
open Go Am
set_option maxRecDepth 100000
theorem sumNo (G : Gd) : SumOk ctx Go.Proofs.Tryz.prog G := fun f s args h v h' hs => by
  have hs : (T.e : T Sum).get f = some s := hs
  rw [T.get_e] at hs; cases hs
theorem sok4 (hX : ExtOk ctx Go.Proofs.Tryz.prog) (G : Gd) : SOk ctx Go.Proofs.Tryz.prog G ⟨4, 0, K.fnK ctx 4 0, sF [] (.bool true)⟩ := by
  obtain ⟨h', e⟩ := K.isTrue_ok anchor4
  exact sokF cok hX (sumNo G) (K.run_le nosum tbok tyok 200) e rfl rfl (by kernel_rfl)
theorem seSe : ∀ x ∈ seS, K.fnK ctx x.f x.n = x.g := by
  intro x hx
  unfold seS at hx
  simp only [List.mem_cons, List.not_mem_nil, or_false] at hx
  rcases hx with rfl
  dsimp only
theorem sokS (hX : ExtOk ctx Go.Proofs.Tryz.prog) (G : Gd) : ∀ x ∈ seS, SOk ctx Go.Proofs.Tryz.prog G x := by
  intro x hx
  unfold seS at hx
  simp only [List.mem_cons, List.not_mem_nil, or_false] at hx
  rcases hx with rfl
  exact sok4 hX G
theorem tbokS : K.TbOkS (ctx.with (sumOf seS)) tbS := tbOkS_of tbok rfl seSe
end YthlpjeoddenioaaGreatDoorSfM
