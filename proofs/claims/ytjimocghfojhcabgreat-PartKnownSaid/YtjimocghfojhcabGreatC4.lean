/- The abstract code of these functions is that of the translated ones. Without conditions. -/
import Derived.Test.YtjimocghfojhcabGreatT2
import Derived.Test.YtjimocghfojhcabGreatChecked
import Derived.KernelRfl
namespace Go.Eng
open Go.Proofs
theorem Bc179 : compFunc Tryz.prog 179 = some BF179 := by kernel_rfl
theorem Bc180 : compFunc Tryz.prog 180 = some BF180 := by kernel_rfl
theorem Bc181 : compFunc Tryz.prog 181 = some BF181 := by kernel_rfl
theorem Bc182 : compFunc Tryz.prog 182 = some BF182 := by kernel_rfl
theorem Bc183 : compFunc Tryz.prog 183 = some BF183 := by kernel_rfl
theorem Bc184 : compFunc Tryz.prog 184 = some BF184 := by kernel_rfl
theorem Bc208 : compFunc Tryz.prog 208 = some BF208 := by kernel_rfl
theorem Bc209 : compFunc Tryz.prog 209 = some BF209 := by kernel_rfl
theorem Bc210 : compFunc Tryz.prog 210 = some BF210 := by kernel_rfl
theorem Bc211 : compFunc Tryz.prog 211 = some BF211 := by kernel_rfl
theorem Bc212 : compFunc Tryz.prog 212 = some BF212 := by kernel_rfl
theorem Bc213 : compFunc Tryz.prog 213 = some BF213 := by kernel_rfl
theorem Bc214 : compFunc Tryz.prog 214 = some BF214 := by kernel_rfl
theorem Bc215 : compFunc Tryz.prog 215 = some BF215 := by kernel_rfl
theorem Bc216 : compFunc Tryz.prog 216 = some BF216 := by kernel_rfl
theorem Bc217 : compFunc Tryz.prog 217 = some BF217 := by kernel_rfl
theorem Bc218 : compFunc Tryz.prog 218 = some BF218 := by kernel_rfl
theorem Bc219 : compFunc Tryz.prog 219 = some BF219 := by kernel_rfl
theorem Bc220 : compFunc Tryz.prog 220 = some BF220 := by kernel_rfl
theorem Bc221 : compFunc Tryz.prog 221 = some BF221 := by kernel_rfl
theorem Bc222 : compFunc Tryz.prog 222 = some BF222 := by kernel_rfl
theorem Bc223 : compFunc Tryz.prog 223 = some BF223 := by kernel_rfl
theorem Bc224 : compFunc Tryz.prog 224 = some BF224 := by kernel_rfl
theorem Bc225 : compFunc Tryz.prog 225 = some BF225 := by kernel_rfl
theorem Bc226 : compFunc Tryz.prog 226 = some BF226 := by kernel_rfl
theorem Bc227 : compFunc Tryz.prog 227 = some BF227 := by kernel_rfl
theorem Bc228 : compFunc Tryz.prog 228 = some BF228 := by kernel_rfl
theorem Bc229 : compFunc Tryz.prog 229 = some BF229 := by kernel_rfl
theorem Bc241 : compFunc Tryz.prog 241 = some BF241 := by kernel_rfl
theorem Bc242 : compFunc Tryz.prog 242 = some BF242 := by kernel_rfl
theorem Bc243 : compFunc Tryz.prog 243 = some BF243 := by kernel_rfl
theorem Bc244 : compFunc Tryz.prog 244 = some BF244 := by kernel_rfl
theorem Bc245 : compFunc Tryz.prog 245 = some BF245 := by kernel_rfl
theorem Bc246 : compFunc Tryz.prog 246 = some BF246 := by kernel_rfl
theorem Bc247 : compFunc Tryz.prog 247 = some BF247 := by kernel_rfl
theorem Bc248 : compFunc Tryz.prog 248 = some BF248 := by kernel_rfl
theorem Bc264 : compFunc Tryz.prog 264 = some BF264 := by kernel_rfl
end Go.Eng
