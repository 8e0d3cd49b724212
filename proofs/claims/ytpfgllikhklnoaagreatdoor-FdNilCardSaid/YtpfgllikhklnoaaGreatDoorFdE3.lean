/- PRINTED BY Gen2.lean (own): the plain texts are what the machine comes to, part 3. -/
import Derived.Test.YtpfgllikhklnoaaGreatDoorFdR3
import Derived.KernelRfl
namespace YtpfgllikhklnoaaGreatDoorFdM
open Go Am
set_option maxRecDepth 100000
theorem r127_eq : K.fnK ctx 127 1 = r127 := by kernel_rfl
theorem r128_eq : K.fnK ctx 128 2 = r128 := by kernel_rfl
theorem r129_eq : K.fnK ctx 129 0 = r129 := by kernel_rfl
theorem r130_eq : K.fnK ctx 130 2 = r130 := by kernel_rfl
theorem r131_eq : K.fnK ctx 131 1 = r131 := by kernel_rfl
theorem r132_eq : K.fnK ctx 132 2 = r132 := by kernel_rfl
theorem r133_eq : K.fnK ctx 133 2 = r133 := by kernel_rfl
theorem r134_eq : K.fnK ctx 134 2 = r134 := by kernel_rfl
theorem r135_eq : K.fnK ctx 135 2 = r135 := by kernel_rfl
theorem r136_eq : K.fnK ctx 136 3 = r136 := by kernel_rfl
theorem r137_eq : K.fnK ctx 137 1 = r137 := by kernel_rfl
theorem r138_eq : K.fnK ctx 138 2 = r138 := by kernel_rfl
theorem r139_eq : K.fnK ctx 139 2 = r139 := by kernel_rfl
theorem r140_eq : K.fnK ctx 140 2 = r140 := by kernel_rfl
theorem r141_eq : K.fnK ctx 141 1 = r141 := by kernel_rfl
theorem r142_eq : K.fnK ctx 142 1 = r142 := by kernel_rfl
theorem r143_eq : K.fnK ctx 143 2 = r143 := by kernel_rfl
theorem r144_eq : K.fnK ctx 144 2 = r144 := by kernel_rfl
theorem r145_eq : K.fnK ctx 145 2 = r145 := by kernel_rfl
theorem r146_eq : K.fnK ctx 146 1 = r146 := by kernel_rfl
theorem r147_eq : K.fnK ctx 147 1 = r147 := by kernel_rfl
theorem r148_eq : K.fnK ctx 148 2 = r148 := by kernel_rfl
theorem r149_eq : K.fnK ctx 149 2 = r149 := by kernel_rfl
theorem r150_eq : K.fnK ctx 150 2 = r150 := by kernel_rfl
theorem r151_eq : K.fnK ctx 151 1 = r151 := by kernel_rfl
theorem r152_eq : K.fnK ctx 152 2 = r152 := by kernel_rfl
theorem r153_eq : K.fnK ctx 153 2 = r153 := by kernel_rfl
theorem r154_eq : K.fnK ctx 154 2 = r154 := by kernel_rfl
theorem r155_eq : K.fnK ctx 155 2 = r155 := by kernel_rfl
theorem r156_eq : K.fnK ctx 156 2 = r156 := by kernel_rfl
theorem r157_eq : K.fnK ctx 157 2 = r157 := by kernel_rfl
theorem r158_eq : K.fnK ctx 158 2 = r158 := by kernel_rfl
theorem r160_eq : K.fnK ctx 160 0 = r160 := by kernel_rfl
theorem r161_eq : K.fnK ctx 161 2 = r161 := by kernel_rfl
theorem r162_eq : K.fnK ctx 162 1 = r162 := by kernel_rfl
theorem r163_eq : K.fnK ctx 163 1 = r163 := by kernel_rfl
theorem r164_eq : K.fnK ctx 164 1 = r164 := by kernel_rfl
theorem r165_eq : K.fnK ctx 165 1 = r165 := by kernel_rfl
theorem r166_eq : K.fnK ctx 166 3 = r166 := by kernel_rfl
theorem r167_eq : K.fnK ctx 167 2 = r167 := by kernel_rfl
theorem r168_eq : K.fnK ctx 168 2 = r168 := by kernel_rfl
theorem r170_eq : K.fnK ctx 170 1 = r170 := by kernel_rfl
theorem r173_eq : K.fnK ctx 173 2 = r173 := by kernel_rfl
theorem r174_eq : K.fnK ctx 174 1 = r174 := by kernel_rfl
theorem r175_eq : K.fnK ctx 175 2 = r175 := by kernel_rfl
theorem r176_eq : K.fnK ctx 176 2 = r176 := by kernel_rfl
theorem r177_eq : K.fnK ctx 177 2 = r177 := by kernel_rfl
theorem r181_eq : K.fnK ctx 181 1 = r181 := by kernel_rfl
theorem r182_eq : K.fnK ctx 182 2 = r182 := by kernel_rfl
theorem y1_eq : K.rndK ctx 1 = y1 := by kernel_rfl
end YtpfgllikhklnoaaGreatDoorFdM
