import Derived.Test.YtbigljebnajniaaGreatDoorCnL2
open Go Am
set_option maxRecDepth 100000
namespace YtbigljebnajniaaGreatDoorCnM
theorem anchor4 : K.isTrue (K.run tbS2 ty 200 (.fn 4) [] ⟨0, .e⟩) = true := by kernel_rfl
end YtbigljebnajniaaGreatDoorCnM
