/- PRINTED BY Gen2.lean (own): the plain texts are what the machine comes to, part 0. -/
import Derived.Test.YthlpjeoddenioaaGreatDoorSfR0
import Derived.Test.YthlpjeoddenioaaGreatDoorA5
import Derived.KernelRfl
namespace YthlpjeoddenioaaGreatDoorSfM
open Go Am
set_option maxRecDepth 100000
theorem r3N_eq (N : Nat) : K.fnKN N ctx 3 5 = r3N N := by kernel_rfl
theorem r3_eq : K.fnK ctx 3 5 = r3 := (K.fnKN_eq ctx 3 5).trans (r3N_eq 1000000)
theorem r5_eq : K.fnK ctx 5 2 = r5 := by kernel_rfl
theorem r6_eq : K.fnK ctx 6 3 = r6 := by kernel_rfl
theorem r7_eq : K.fnK ctx 7 1 = r7 := by kernel_rfl
theorem r8_eq : K.fnK ctx 8 2 = r8 := by kernel_rfl
theorem r9N_eq (N : Nat) : K.fnKN N ctx 9 1 = r9N N := by kernel_rfl
theorem r9_eq : K.fnK ctx 9 1 = r9 := (K.fnKN_eq ctx 9 1).trans (r9N_eq 1000000)
theorem r10N_eq (N : Nat) : K.fnKN N ctx 10 1 = r10N N := by kernel_rfl
theorem r10_eq : K.fnK ctx 10 1 = r10 := (K.fnKN_eq ctx 10 1).trans (r10N_eq 1000000)
theorem r11_eq : K.fnK ctx 11 1 = r11 := by kernel_rfl
theorem r12_eq : K.fnK ctx 12 1 = r12 := by kernel_rfl
theorem r13_eq : K.fnK ctx 13 2 = r13 := by kernel_rfl
theorem r14_eq : K.fnK ctx 14 1 = r14 := by kernel_rfl
theorem r15_eq : K.fnK ctx 15 2 = r15 := by kernel_rfl
theorem r16_eq : K.fnK ctx 16 2 = r16 := by kernel_rfl
theorem r17_eq : K.fnK ctx 17 4 = r17 := by kernel_rfl
theorem r18_eq : K.fnK ctx 18 2 = r18 := by kernel_rfl
theorem r19_eq : K.fnK ctx 19 1 = r19 := by kernel_rfl
theorem r20_eq : K.fnK ctx 20 1 = r20 := by kernel_rfl
theorem r21_eq : K.fnK ctx 21 1 = r21 := by kernel_rfl
theorem r22_eq : K.fnK ctx 22 3 = r22 := by kernel_rfl
theorem r23_eq : K.fnK ctx 23 1 = r23 := by kernel_rfl
theorem r24_eq : K.fnK ctx 24 1 = r24 := by kernel_rfl
theorem r25_eq : K.fnK ctx 25 4 = r25 := by kernel_rfl
end YthlpjeoddenioaaGreatDoorSfM
