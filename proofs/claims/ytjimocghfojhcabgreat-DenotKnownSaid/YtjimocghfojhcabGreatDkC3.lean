/- The abstract code of these functions is that of the translated ones. Without conditions. -/
import Derived.Test.YtjimocghfojhcabGreatDkT2
import Derived.Test.YtjimocghfojhcabGreatChecked
import Derived.KernelRfl
namespace Go.Eng
open Go.Proofs
theorem Dc158 : compFunc Tryz.prog 158 = some DF158 := by kernel_rfl
theorem Dc159 : compFunc Tryz.prog 159 = some DF159 := by kernel_rfl
theorem Dc160 : compFunc Tryz.prog 160 = some DF160 := by kernel_rfl
theorem Dc161 : compFunc Tryz.prog 161 = some DF161 := by kernel_rfl
theorem Dc162 : compFunc Tryz.prog 162 = some DF162 := by kernel_rfl
theorem Dc163 : compFunc Tryz.prog 163 = some DF163 := by kernel_rfl
theorem Dc164 : compFunc Tryz.prog 164 = some DF164 := by kernel_rfl
theorem Dc165 : compFunc Tryz.prog 165 = some DF165 := by kernel_rfl
theorem Dc166 : compFunc Tryz.prog 166 = some DF166 := by kernel_rfl
theorem Dc167 : compFunc Tryz.prog 167 = some DF167 := by kernel_rfl
theorem Dc169 : compFunc Tryz.prog 169 = some DF169 := by kernel_rfl
theorem Dc173 : compFunc Tryz.prog 173 = some DF173 := by kernel_rfl
theorem Dc174 : compFunc Tryz.prog 174 = some DF174 := by kernel_rfl
theorem Dc175 : compFunc Tryz.prog 175 = some DF175 := by kernel_rfl
theorem Dc176 : compFunc Tryz.prog 176 = some DF176 := by kernel_rfl
theorem Dc177 : compFunc Tryz.prog 177 = some DF177 := by kernel_rfl
theorem Dc178 : compFunc Tryz.prog 178 = some DF178 := by kernel_rfl
theorem Dc179 : compFunc Tryz.prog 179 = some DF179 := by kernel_rfl
theorem Dc180 : compFunc Tryz.prog 180 = some DF180 := by kernel_rfl
theorem Dc181 : compFunc Tryz.prog 181 = some DF181 := by kernel_rfl
theorem Dc182 : compFunc Tryz.prog 182 = some DF182 := by kernel_rfl
theorem Dc183 : compFunc Tryz.prog 183 = some DF183 := by kernel_rfl
theorem Dc185 : compFunc Tryz.prog 185 = some DF185 := by kernel_rfl
theorem Dc186 : compFunc Tryz.prog 186 = some DF186 := by kernel_rfl
theorem Dc187 : compFunc Tryz.prog 187 = some DF187 := by kernel_rfl
theorem Dc188 : compFunc Tryz.prog 188 = some DF188 := by kernel_rfl
theorem Dc189 : compFunc Tryz.prog 189 = some DF189 := by kernel_rfl
theorem Dc190 : compFunc Tryz.prog 190 = some DF190 := by kernel_rfl
theorem Dc207 : compFunc Tryz.prog 207 = some DF207 := by kernel_rfl
theorem Dc208 : compFunc Tryz.prog 208 = some DF208 := by kernel_rfl
theorem Dc209 : compFunc Tryz.prog 209 = some DF209 := by kernel_rfl
theorem Dc210 : compFunc Tryz.prog 210 = some DF210 := by kernel_rfl
theorem Dc211 : compFunc Tryz.prog 211 = some DF211 := by kernel_rfl
theorem Dc212 : compFunc Tryz.prog 212 = some DF212 := by kernel_rfl
theorem Dc213 : compFunc Tryz.prog 213 = some DF213 := by kernel_rfl
theorem Dc214 : compFunc Tryz.prog 214 = some DF214 := by kernel_rfl
theorem Dc215 : compFunc Tryz.prog 215 = some DF215 := by kernel_rfl
theorem Dc217 : compFunc Tryz.prog 217 = some DF217 := by kernel_rfl
theorem Dc218 : compFunc Tryz.prog 218 = some DF218 := by kernel_rfl
theorem Dc219 : compFunc Tryz.prog 219 = some DF219 := by kernel_rfl
theorem Dc220 : compFunc Tryz.prog 220 = some DF220 := by kernel_rfl
theorem Dc221 : compFunc Tryz.prog 221 = some DF221 := by kernel_rfl
theorem Dc222 : compFunc Tryz.prog 222 = some DF222 := by kernel_rfl
theorem Dc223 : compFunc Tryz.prog 223 = some DF223 := by kernel_rfl
end Go.Eng
