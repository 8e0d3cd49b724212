/- PRINTED BY Gen2.lean (own): the plain texts are what the machine comes to, part 2. -/
import Derived.Test.YthlpjeoddenioaaGreatDoorSfR2
import Derived.Test.YthlpjeoddenioaaGreatDoorA5
import Derived.KernelRfl
namespace YthlpjeoddenioaaGreatDoorSfM
open Go Am
set_option maxRecDepth 100000
theorem r63_eq : K.fnK ctx 63 3 = r63 := by kernel_rfl
theorem r64_eq : K.fnK ctx 64 1 = r64 := by kernel_rfl
theorem r65_eq : K.fnK ctx 65 1 = r65 := by kernel_rfl
theorem r66_eq : K.fnK ctx 66 1 = r66 := by kernel_rfl
theorem r67_eq : K.fnK ctx 67 0 = r67 := by kernel_rfl
theorem r68_eq : K.fnK ctx 68 1 = r68 := by kernel_rfl
theorem r69_eq : K.fnK ctx 69 2 = r69 := by kernel_rfl
theorem r70_eq : K.fnK ctx 70 2 = r70 := by kernel_rfl
theorem r71_eq : K.fnK ctx 71 1 = r71 := by kernel_rfl
theorem r72_eq : K.fnK ctx 72 2 = r72 := by kernel_rfl
theorem r74_eq : K.fnK ctx 74 1 = r74 := by kernel_rfl
theorem r75_eq : K.fnK ctx 75 1 = r75 := by kernel_rfl
theorem r76_eq : K.fnK ctx 76 2 = r76 := by kernel_rfl
theorem r77_eq : K.fnK ctx 77 2 = r77 := by kernel_rfl
theorem r78_eq : K.fnK ctx 78 2 = r78 := by kernel_rfl
theorem r79_eq : K.fnK ctx 79 3 = r79 := by kernel_rfl
theorem r80_eq : K.fnK ctx 80 2 = r80 := by kernel_rfl
theorem r82_eq : K.fnK ctx 82 2 = r82 := by kernel_rfl
theorem r83_eq : K.fnK ctx 83 2 = r83 := by kernel_rfl
theorem r84_eq : K.fnK ctx 84 1 = r84 := by kernel_rfl
theorem r85_eq : K.fnK ctx 85 3 = r85 := by kernel_rfl
theorem r86_eq : K.fnK ctx 86 2 = r86 := by kernel_rfl
theorem r87_eq : K.fnK ctx 87 2 = r87 := by kernel_rfl
theorem r88_eq : K.fnK ctx 88 1 = r88 := by kernel_rfl
theorem r89_eq : K.fnK ctx 89 2 = r89 := by kernel_rfl
theorem r90_eq : K.fnK ctx 90 2 = r90 := by kernel_rfl
theorem r91_eq : K.fnK ctx 91 1 = r91 := by kernel_rfl
theorem r92_eq : K.fnK ctx 92 3 = r92 := by kernel_rfl
theorem r96_eq : K.fnK ctx 96 1 = r96 := by kernel_rfl
theorem r97_eq : K.fnK ctx 97 1 = r97 := by kernel_rfl
theorem r98_eq : K.fnK ctx 98 2 = r98 := by kernel_rfl
theorem r99_eq : K.fnK ctx 99 2 = r99 := by kernel_rfl
theorem r100_eq : K.fnK ctx 100 2 = r100 := by kernel_rfl
theorem r101_eq : K.fnK ctx 101 2 = r101 := by kernel_rfl
theorem r102_eq : K.fnK ctx 102 3 = r102 := by kernel_rfl
theorem r103_eq : K.fnK ctx 103 2 = r103 := by kernel_rfl
theorem r107_eq : K.fnK ctx 107 3 = r107 := by kernel_rfl
end YthlpjeoddenioaaGreatDoorSfM
