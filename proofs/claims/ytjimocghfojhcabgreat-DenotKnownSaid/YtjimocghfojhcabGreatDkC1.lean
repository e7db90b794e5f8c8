/- The abstract code of these functions is that of the translated ones. Without conditions. -/
import Derived.Test.YtjimocghfojhcabGreatDkT2
import Derived.Test.YtjimocghfojhcabGreatChecked
import Derived.KernelRfl
namespace Go.Eng
open Go.Proofs
theorem Dc7 : compFunc Tryz.prog 7 = some DF7 := by kernel_rfl
theorem Dc23 : compFunc Tryz.prog 23 = some DF23 := by kernel_rfl
theorem Dc25 : compFunc Tryz.prog 25 = some DF25 := by kernel_rfl
theorem Dc27 : compFunc Tryz.prog 27 = some DF27 := by kernel_rfl
theorem Dc30 : compFunc Tryz.prog 30 = some DF30 := by kernel_rfl
theorem Dc32 : compFunc Tryz.prog 32 = some DF32 := by kernel_rfl
theorem Dc33 : compFunc Tryz.prog 33 = some DF33 := by kernel_rfl
theorem Dc34 : compFunc Tryz.prog 34 = some DF34 := by kernel_rfl
theorem Dc37 : compFunc Tryz.prog 37 = some DF37 := by kernel_rfl
theorem Dc41 : compFunc Tryz.prog 41 = some DF41 := by kernel_rfl
theorem Dc45 : compFunc Tryz.prog 45 = some DF45 := by kernel_rfl
theorem Dc46 : compFunc Tryz.prog 46 = some DF46 := by kernel_rfl
theorem Dc48 : compFunc Tryz.prog 48 = some DF48 := by kernel_rfl
theorem Dc49 : compFunc Tryz.prog 49 = some DF49 := by kernel_rfl
theorem Dc50 : compFunc Tryz.prog 50 = some DF50 := by kernel_rfl
theorem Dc51 : compFunc Tryz.prog 51 = some DF51 := by kernel_rfl
theorem Dc55 : compFunc Tryz.prog 55 = some DF55 := by kernel_rfl
theorem Dc59 : compFunc Tryz.prog 59 = some DF59 := by kernel_rfl
theorem Dc60 : compFunc Tryz.prog 60 = some DF60 := by kernel_rfl
theorem Dc61 : compFunc Tryz.prog 61 = some DF61 := by kernel_rfl
theorem Dc62 : compFunc Tryz.prog 62 = some DF62 := by kernel_rfl
theorem Dc63 : compFunc Tryz.prog 63 = some DF63 := by kernel_rfl
theorem Dc64 : compFunc Tryz.prog 64 = some DF64 := by kernel_rfl
theorem Dc65 : compFunc Tryz.prog 65 = some DF65 := by kernel_rfl
theorem Dc66 : compFunc Tryz.prog 66 = some DF66 := by kernel_rfl
theorem Dc74 : compFunc Tryz.prog 74 = some DF74 := by kernel_rfl
theorem Dc75 : compFunc Tryz.prog 75 = some DF75 := by kernel_rfl
theorem Dc76 : compFunc Tryz.prog 76 = some DF76 := by kernel_rfl
theorem Dc77 : compFunc Tryz.prog 77 = some DF77 := by kernel_rfl
theorem Dc78 : compFunc Tryz.prog 78 = some DF78 := by kernel_rfl
theorem Dc80 : compFunc Tryz.prog 80 = some DF80 := by kernel_rfl
theorem Dc81 : compFunc Tryz.prog 81 = some DF81 := by kernel_rfl
theorem Dc85 : compFunc Tryz.prog 85 = some DF85 := by kernel_rfl
theorem Dc86 : compFunc Tryz.prog 86 = some DF86 := by kernel_rfl
theorem Dc87 : compFunc Tryz.prog 87 = some DF87 := by kernel_rfl
theorem Dc88 : compFunc Tryz.prog 88 = some DF88 := by kernel_rfl
theorem Dc89 : compFunc Tryz.prog 89 = some DF89 := by kernel_rfl
theorem Dc90 : compFunc Tryz.prog 90 = some DF90 := by kernel_rfl
theorem Dc91 : compFunc Tryz.prog 91 = some DF91 := by kernel_rfl
theorem Dc92 : compFunc Tryz.prog 92 = some DF92 := by kernel_rfl
theorem Dc93 : compFunc Tryz.prog 93 = some DF93 := by kernel_rfl
theorem Dc94 : compFunc Tryz.prog 94 = some DF94 := by kernel_rfl
theorem Dc99 : compFunc Tryz.prog 99 = some DF99 := by kernel_rfl
theorem Dc101 : compFunc Tryz.prog 101 = some DF101 := by kernel_rfl
theorem Dhm : Tryz.prog.follows .mixedOrders = true := by kernel_rfl
end Go.Eng
