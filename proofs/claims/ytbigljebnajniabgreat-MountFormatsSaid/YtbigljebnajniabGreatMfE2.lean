/- PRINTED BY Gen2.lean (own): the plain texts are what the machine comes to, part 2. -/
import Derived.Test.YtbigljebnajniabGreatMfR2
import Derived.KernelRfl
namespace YtbigljebnajniabGreatMfM
open Go Am
set_option maxRecDepth 100000
theorem r88_eq : K.fnK ctx 88 1 = r88 := by kernel_rfl
theorem r89_eq : K.fnK ctx 89 2 = r89 := by kernel_rfl
theorem r90_eq : K.fnK ctx 90 0 = r90 := by kernel_rfl
theorem r91_eq : K.fnK ctx 91 2 = r91 := by kernel_rfl
theorem r92_eq : K.fnK ctx 92 2 = r92 := by kernel_rfl
theorem r93_eq : K.fnK ctx 93 4 = r93 := by kernel_rfl
theorem r94_eq : K.fnK ctx 94 1 = r94 := by kernel_rfl
theorem r95_eq : K.fnK ctx 95 3 = r95 := by kernel_rfl
theorem r101_eq : K.fnK ctx 101 2 = r101 := by kernel_rfl
theorem r105_eq : K.fnK ctx 105 1 = r105 := by kernel_rfl
theorem r111_eq : K.fnK ctx 111 1 = r111 := by kernel_rfl
theorem y1_eq : K.rndK ctx 1 = y1 := by kernel_rfl
theorem y2_eq : K.rndK ctx 2 = y2 := by kernel_rfl
theorem y3_eq : K.rndK ctx 3 = y3 := by kernel_rfl
theorem y4_eq : K.rndK ctx 4 = y4 := by kernel_rfl
theorem y5_eq : K.rndK ctx 5 = y5 := by kernel_rfl
end YtbigljebnajniabGreatMfM
