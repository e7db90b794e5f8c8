/- The abstract code of these functions is that of the translated ones. Without conditions. -/
import Derived.Test.YtjimocghfojhcabGreatDkT2
import Derived.Test.YtjimocghfojhcabGreatChecked
import Derived.KernelRfl
namespace Go.Eng
open Go.Proofs
theorem Dc224 : compFunc Tryz.prog 224 = some DF224 := by kernel_rfl
theorem Dc225 : compFunc Tryz.prog 225 = some DF225 := by kernel_rfl
theorem Dc226 : compFunc Tryz.prog 226 = some DF226 := by kernel_rfl
theorem Dc227 : compFunc Tryz.prog 227 = some DF227 := by kernel_rfl
theorem Dc228 : compFunc Tryz.prog 228 = some DF228 := by kernel_rfl
theorem Dc229 : compFunc Tryz.prog 229 = some DF229 := by kernel_rfl
theorem Dc230 : compFunc Tryz.prog 230 = some DF230 := by kernel_rfl
theorem Dc231 : compFunc Tryz.prog 231 = some DF231 := by kernel_rfl
theorem Dc232 : compFunc Tryz.prog 232 = some DF232 := by kernel_rfl
theorem Dc239 : compFunc Tryz.prog 239 = some DF239 := by kernel_rfl
theorem Dc240 : compFunc Tryz.prog 240 = some DF240 := by kernel_rfl
theorem Dc241 : compFunc Tryz.prog 241 = some DF241 := by kernel_rfl
theorem Dc243 : compFunc Tryz.prog 243 = some DF243 := by kernel_rfl
theorem Dc244 : compFunc Tryz.prog 244 = some DF244 := by kernel_rfl
theorem Dc245 : compFunc Tryz.prog 245 = some DF245 := by kernel_rfl
theorem Dc246 : compFunc Tryz.prog 246 = some DF246 := by kernel_rfl
theorem Dc247 : compFunc Tryz.prog 247 = some DF247 := by kernel_rfl
theorem Dc248 : compFunc Tryz.prog 248 = some DF248 := by kernel_rfl
theorem Dc249 : compFunc Tryz.prog 249 = some DF249 := by kernel_rfl
theorem Dc250 : compFunc Tryz.prog 250 = some DF250 := by kernel_rfl
theorem Dc251 : compFunc Tryz.prog 251 = some DF251 := by kernel_rfl
theorem Dc252 : compFunc Tryz.prog 252 = some DF252 := by kernel_rfl
theorem Dc253 : compFunc Tryz.prog 253 = some DF253 := by kernel_rfl
theorem Dc254 : compFunc Tryz.prog 254 = some DF254 := by kernel_rfl
theorem Dc255 : compFunc Tryz.prog 255 = some DF255 := by kernel_rfl
theorem Dc256 : compFunc Tryz.prog 256 = some DF256 := by kernel_rfl
theorem Dc263 : compFunc Tryz.prog 263 = some DF263 := by kernel_rfl
theorem Dc264 : compFunc Tryz.prog 264 = some DF264 := by kernel_rfl
theorem Dc265 : compFunc Tryz.prog 265 = some DF265 := by kernel_rfl
theorem Dc267 : compFunc Tryz.prog 267 = some DF267 := by kernel_rfl
theorem Dc268 : compFunc Tryz.prog 268 = some DF268 := by kernel_rfl
theorem Dc269 : compFunc Tryz.prog 269 = some DF269 := by kernel_rfl
theorem Dc270 : compFunc Tryz.prog 270 = some DF270 := by kernel_rfl
theorem Dc271 : compFunc Tryz.prog 271 = some DF271 := by kernel_rfl
theorem Dc272 : compFunc Tryz.prog 272 = some DF272 := by kernel_rfl
theorem Dc273 : compFunc Tryz.prog 273 = some DF273 := by kernel_rfl
theorem Dc274 : compFunc Tryz.prog 274 = some DF274 := by kernel_rfl
theorem Dc275 : compFunc Tryz.prog 275 = some DF275 := by kernel_rfl
theorem Dc276 : compFunc Tryz.prog 276 = some DF276 := by kernel_rfl
theorem Dc277 : compFunc Tryz.prog 277 = some DF277 := by kernel_rfl
theorem Dc278 : compFunc Tryz.prog 278 = some DF278 := by kernel_rfl
theorem Dc279 : compFunc Tryz.prog 279 = some DF279 := by kernel_rfl
end Go.Eng
