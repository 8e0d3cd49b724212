import Derived.Test.YtbigljebnajniabGreatMfOk
open Go Am
set_option maxRecDepth 100000
namespace YtbigljebnajniabGreatMfM
theorem anchor4 : K.isTrue (K.run tb ty 200 (.fn 4) [] ⟨0, .e⟩) = true := by kernel_rfl
end YtbigljebnajniabGreatMfM
