/- PRINTED BY Gen2.lean (own): the plain texts are what the machine comes to, part 2. -/
import Derived.Test.YtbigljebnajniaaGreatDoorCnR2
import Derived.KernelRfl
namespace YtbigljebnajniaaGreatDoorCnM
open Go Am
set_option maxRecDepth 100000
theorem r65_eq : K.fnK ctx 65 2 = r65 := by kernel_rfl
theorem r66_eq : K.fnK ctx 66 2 = r66 := by kernel_rfl
theorem r67_eq : K.fnK ctx 67 2 = r67 := by kernel_rfl
theorem r68_eq : K.fnK ctx 68 2 = r68 := by kernel_rfl
theorem r69_eq : K.fnK ctx 69 2 = r69 := by kernel_rfl
theorem r70_eq : K.fnK ctx 70 3 = r70 := by kernel_rfl
theorem r73_eq : K.fnK ctx 73 2 = r73 := by kernel_rfl
theorem r74_eq : K.fnK ctx 74 3 = r74 := by kernel_rfl
theorem r75_eq : K.fnK ctx 75 1 = r75 := by kernel_rfl
theorem r76_eq : K.fnK ctx 76 2 = r76 := by kernel_rfl
theorem r77_eq : K.fnK ctx 77 3 = r77 := by kernel_rfl
theorem r78_eq : K.fnK ctx 78 2 = r78 := by kernel_rfl
theorem r79_eq : K.fnK ctx 79 2 = r79 := by kernel_rfl
theorem r80_eq : K.fnK ctx 80 1 = r80 := by kernel_rfl
theorem r81_eq : K.fnK ctx 81 1 = r81 := by kernel_rfl
theorem r82_eq : K.fnK ctx 82 5 = r82 := by kernel_rfl
theorem r83_eq : K.fnK ctx 83 2 = r83 := by kernel_rfl
theorem r84_eq : K.fnK ctx 84 2 = r84 := by kernel_rfl
theorem r86_eq : K.fnK ctx 86 2 = r86 := by kernel_rfl
theorem r88_eq : K.fnK ctx 88 2 = r88 := by kernel_rfl
theorem r89_eq : K.fnK ctx 89 2 = r89 := by kernel_rfl
theorem r91_eq : K.fnK ctx 91 2 = r91 := by kernel_rfl
theorem r92_eq : K.fnK ctx 92 1 = r92 := by kernel_rfl
theorem y1_eq : K.rndK ctx 1 = y1 := by kernel_rfl
end YtbigljebnajniaaGreatDoorCnM
