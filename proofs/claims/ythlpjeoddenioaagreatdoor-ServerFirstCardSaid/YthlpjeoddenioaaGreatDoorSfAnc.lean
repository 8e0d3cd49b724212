import Derived.Test.YthlpjeoddenioaaGreatDoorSfTb
open Go Am
set_option maxRecDepth 100000
namespace YthlpjeoddenioaaGreatDoorSfM
theorem anchor4 : K.isTrue (K.run tb ty 200 (.fn 4) [] ⟨0, .e⟩) = true := by kernel_rfl
end YthlpjeoddenioaaGreatDoorSfM
