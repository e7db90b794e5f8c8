/- The abstract code of these functions is that of the translated ones. Without conditions. -/
import Derived.Test.YtjimocghfojhcabGreatT2
import Derived.Test.YtjimocghfojhcabGreatChecked
import Derived.KernelRfl
namespace Go.Eng
open Go.Proofs
theorem Bc3 : compFunc Tryz.prog 3 = some BF3 := by kernel_rfl
theorem Bc9 : compFunc Tryz.prog 9 = some BF9 := by kernel_rfl
theorem Bc10 : compFunc Tryz.prog 10 = some BF10 := by kernel_rfl
theorem Bc11 : compFunc Tryz.prog 11 = some BF11 := by kernel_rfl
theorem Bc12 : compFunc Tryz.prog 12 = some BF12 := by kernel_rfl
theorem Bc13 : compFunc Tryz.prog 13 = some BF13 := by kernel_rfl
theorem Bc14 : compFunc Tryz.prog 14 = some BF14 := by kernel_rfl
theorem Bc15 : compFunc Tryz.prog 15 = some BF15 := by kernel_rfl
theorem Bc16 : compFunc Tryz.prog 16 = some BF16 := by kernel_rfl
theorem Bc17 : compFunc Tryz.prog 17 = some BF17 := by kernel_rfl
theorem Bc18 : compFunc Tryz.prog 18 = some BF18 := by kernel_rfl
theorem Bc19 : compFunc Tryz.prog 19 = some BF19 := by kernel_rfl
theorem Bc20 : compFunc Tryz.prog 20 = some BF20 := by kernel_rfl
theorem Bc22 : compFunc Tryz.prog 22 = some BF22 := by kernel_rfl
theorem Bc39 : compFunc Tryz.prog 39 = some BF39 := by kernel_rfl
theorem Bc40 : compFunc Tryz.prog 40 = some BF40 := by kernel_rfl
theorem Bc41 : compFunc Tryz.prog 41 = some BF41 := by kernel_rfl
theorem Bc42 : compFunc Tryz.prog 42 = some BF42 := by kernel_rfl
theorem Bc43 : compFunc Tryz.prog 43 = some BF43 := by kernel_rfl
theorem Bc44 : compFunc Tryz.prog 44 = some BF44 := by kernel_rfl
theorem Bc45 : compFunc Tryz.prog 45 = some BF45 := by kernel_rfl
theorem Bc46 : compFunc Tryz.prog 46 = some BF46 := by kernel_rfl
theorem Bc47 : compFunc Tryz.prog 47 = some BF47 := by kernel_rfl
theorem Bc48 : compFunc Tryz.prog 48 = some BF48 := by kernel_rfl
theorem Bc49 : compFunc Tryz.prog 49 = some BF49 := by kernel_rfl
theorem Bc50 : compFunc Tryz.prog 50 = some BF50 := by kernel_rfl
theorem Bc51 : compFunc Tryz.prog 51 = some BF51 := by kernel_rfl
theorem Bc52 : compFunc Tryz.prog 52 = some BF52 := by kernel_rfl
theorem Bc53 : compFunc Tryz.prog 53 = some BF53 := by kernel_rfl
theorem Bc54 : compFunc Tryz.prog 54 = some BF54 := by kernel_rfl
theorem Bc55 : compFunc Tryz.prog 55 = some BF55 := by kernel_rfl
theorem Bc56 : compFunc Tryz.prog 56 = some BF56 := by kernel_rfl
theorem Bc57 : compFunc Tryz.prog 57 = some BF57 := by kernel_rfl
theorem Bc58 : compFunc Tryz.prog 58 = some BF58 := by kernel_rfl
theorem Bc76 : compFunc Tryz.prog 76 = some BF76 := by kernel_rfl
theorem Bc77 : compFunc Tryz.prog 77 = some BF77 := by kernel_rfl
theorem Bc78 : compFunc Tryz.prog 78 = some BF78 := by kernel_rfl
theorem Bc79 : compFunc Tryz.prog 79 = some BF79 := by kernel_rfl
theorem Bhm : Tryz.prog.follows .mixedOrders = true := by kernel_rfl
end Go.Eng
