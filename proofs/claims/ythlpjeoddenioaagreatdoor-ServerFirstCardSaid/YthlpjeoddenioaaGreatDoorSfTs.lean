/- The table with works() as a known call. -/
import Derived.Test.YthlpjeoddenioaaGreatDoorSfTb
import Derived.Test.YthlpjeoddenioaaGreatDoorA5
import Derived.KernelRfl
namespace YthlpjeoddenioaaGreatDoorSfM
open Go Am
set_option maxRecDepth 100000
noncomputable def seS : List SE := [⟨4, 0, K.fnK ctx 4 0, sF [] (.bool true)⟩]
noncomputable def tbS : T K.FnC := tbOf tb seS
theorem kg4 (n : Nat) (h : H) : K.run tbS ty (n + 1) (.fn 4) [] h = .ok (.bool true) h := by
  have q : K.run tbS ty (n + 1) (.fn 4) [] h = K.sumFK (sF [] (.bool true)) (K.fnK ctx 4 0) (K.run tbS ty n) [] h := by kernel_rfl
  rw [q]
  unfold K.sumFK
  rw [sF_eq]
end YthlpjeoddenioaaGreatDoorSfM
