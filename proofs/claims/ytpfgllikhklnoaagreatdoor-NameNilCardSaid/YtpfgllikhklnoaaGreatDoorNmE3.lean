/- PRINTED BY Gen2.lean (own): the plain texts are what the machine comes to, part 3. -/
import Derived.Test.YtpfgllikhklnoaaGreatDoorNmR3
import Derived.KernelRfl
namespace YtpfgllikhklnoaaGreatDoorNmM
open Go Am
set_option maxRecDepth 100000
theorem r138_eq : K.fnK ctx 138 2 = r138 := by kernel_rfl
theorem r139_eq : K.fnK ctx 139 2 = r139 := by kernel_rfl
theorem r140_eq : K.fnK ctx 140 2 = r140 := by kernel_rfl
theorem r141_eq : K.fnK ctx 141 1 = r141 := by kernel_rfl
theorem r142_eq : K.fnK ctx 142 1 = r142 := by kernel_rfl
theorem r143_eq : K.fnK ctx 143 2 = r143 := by kernel_rfl
theorem r144_eq : K.fnK ctx 144 2 = r144 := by kernel_rfl
theorem r145_eq : K.fnK ctx 145 2 = r145 := by kernel_rfl
theorem r146_eq : K.fnK ctx 146 1 = r146 := by kernel_rfl
theorem r147_eq : K.fnK ctx 147 1 = r147 := by kernel_rfl
theorem r148_eq : K.fnK ctx 148 2 = r148 := by kernel_rfl
theorem r149_eq : K.fnK ctx 149 2 = r149 := by kernel_rfl
theorem r150_eq : K.fnK ctx 150 2 = r150 := by kernel_rfl
theorem r151_eq : K.fnK ctx 151 1 = r151 := by kernel_rfl
theorem r152_eq : K.fnK ctx 152 2 = r152 := by kernel_rfl
theorem r153_eq : K.fnK ctx 153 2 = r153 := by kernel_rfl
theorem r154_eq : K.fnK ctx 154 2 = r154 := by kernel_rfl
theorem r155_eq : K.fnK ctx 155 2 = r155 := by kernel_rfl
theorem r156_eq : K.fnK ctx 156 2 = r156 := by kernel_rfl
theorem r157_eq : K.fnK ctx 157 2 = r157 := by kernel_rfl
theorem r158_eq : K.fnK ctx 158 2 = r158 := by kernel_rfl
theorem r160_eq : K.fnK ctx 160 0 = r160 := by kernel_rfl
theorem r161_eq : K.fnK ctx 161 2 = r161 := by kernel_rfl
theorem r162_eq : K.fnK ctx 162 1 = r162 := by kernel_rfl
theorem r163_eq : K.fnK ctx 163 1 = r163 := by kernel_rfl
theorem r164_eq : K.fnK ctx 164 1 = r164 := by kernel_rfl
theorem r165_eq : K.fnK ctx 165 1 = r165 := by kernel_rfl
theorem r166_eq : K.fnK ctx 166 3 = r166 := by kernel_rfl
theorem r167_eq : K.fnK ctx 167 2 = r167 := by kernel_rfl
theorem r168_eq : K.fnK ctx 168 2 = r168 := by kernel_rfl
theorem r170_eq : K.fnK ctx 170 1 = r170 := by kernel_rfl
theorem r173_eq : K.fnK ctx 173 2 = r173 := by kernel_rfl
theorem r174_eq : K.fnK ctx 174 1 = r174 := by kernel_rfl
theorem r175_eq : K.fnK ctx 175 2 = r175 := by kernel_rfl
theorem r176_eq : K.fnK ctx 176 2 = r176 := by kernel_rfl
theorem r177_eq : K.fnK ctx 177 2 = r177 := by kernel_rfl
theorem r181_eq : K.fnK ctx 181 1 = r181 := by kernel_rfl
theorem r182_eq : K.fnK ctx 182 2 = r182 := by kernel_rfl
theorem y1_eq : K.rndK ctx 1 = y1 := by kernel_rfl
theorem y2_eq : K.rndK ctx 2 = y2 := by kernel_rfl
theorem y3_eq : K.rndK ctx 3 = y3 := by kernel_rfl
theorem y4_eq : K.rndK ctx 4 = y4 := by kernel_rfl
theorem y5_eq : K.rndK ctx 5 = y5 := by kernel_rfl
theorem y6_eq : K.rndK ctx 6 = y6 := by kernel_rfl
theorem y7_eq : K.rndK ctx 7 = y7 := by kernel_rfl
theorem y8_eq : K.rndK ctx 8 = y8 := by kernel_rfl
theorem y9_eq : K.rndK ctx 9 = y9 := by kernel_rfl
theorem y10_eq : K.rndK ctx 10 = y10 := by kernel_rfl
end YtpfgllikhklnoaaGreatDoorNmM
