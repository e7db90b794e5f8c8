/- The abstract code of these functions is that of the translated ones. Without conditions. -/
import Derived.Test.YtjimocghfojhcabGreatT2
import Derived.Test.YtjimocghfojhcabGreatChecked
import Derived.KernelRfl
namespace Go.Eng
open Go.Proofs
theorem Bc80 : compFunc Tryz.prog 80 = some BF80 := by kernel_rfl
theorem Bc81 : compFunc Tryz.prog 81 = some BF81 := by kernel_rfl
theorem Bc82 : compFunc Tryz.prog 82 = some BF82 := by kernel_rfl
theorem Bc83 : compFunc Tryz.prog 83 = some BF83 := by kernel_rfl
theorem Bc84 : compFunc Tryz.prog 84 = some BF84 := by kernel_rfl
theorem Bc85 : compFunc Tryz.prog 85 = some BF85 := by kernel_rfl
theorem Bc86 : compFunc Tryz.prog 86 = some BF86 := by kernel_rfl
theorem Bc87 : compFunc Tryz.prog 87 = some BF87 := by kernel_rfl
theorem Bc88 : compFunc Tryz.prog 88 = some BF88 := by kernel_rfl
theorem Bc89 : compFunc Tryz.prog 89 = some BF89 := by kernel_rfl
theorem Bc90 : compFunc Tryz.prog 90 = some BF90 := by kernel_rfl
theorem Bc91 : compFunc Tryz.prog 91 = some BF91 := by kernel_rfl
theorem Bc92 : compFunc Tryz.prog 92 = some BF92 := by kernel_rfl
theorem Bc93 : compFunc Tryz.prog 93 = some BF93 := by kernel_rfl
theorem Bc94 : compFunc Tryz.prog 94 = some BF94 := by kernel_rfl
theorem Bc95 : compFunc Tryz.prog 95 = some BF95 := by kernel_rfl
theorem Bc96 : compFunc Tryz.prog 96 = some BF96 := by kernel_rfl
theorem Bc97 : compFunc Tryz.prog 97 = some BF97 := by kernel_rfl
theorem Bc98 : compFunc Tryz.prog 98 = some BF98 := by kernel_rfl
theorem Bc99 : compFunc Tryz.prog 99 = some BF99 := by kernel_rfl
theorem Bc100 : compFunc Tryz.prog 100 = some BF100 := by kernel_rfl
theorem Bc101 : compFunc Tryz.prog 101 = some BF101 := by kernel_rfl
theorem Bc102 : compFunc Tryz.prog 102 = some BF102 := by kernel_rfl
theorem Bc103 : compFunc Tryz.prog 103 = some BF103 := by kernel_rfl
theorem Bc104 : compFunc Tryz.prog 104 = some BF104 := by kernel_rfl
theorem Bc105 : compFunc Tryz.prog 105 = some BF105 := by kernel_rfl
theorem Bc106 : compFunc Tryz.prog 106 = some BF106 := by kernel_rfl
theorem Bc107 : compFunc Tryz.prog 107 = some BF107 := by kernel_rfl
theorem Bc108 : compFunc Tryz.prog 108 = some BF108 := by kernel_rfl
theorem Bc109 : compFunc Tryz.prog 109 = some BF109 := by kernel_rfl
theorem Bc110 : compFunc Tryz.prog 110 = some BF110 := by kernel_rfl
theorem Bc111 : compFunc Tryz.prog 111 = some BF111 := by kernel_rfl
theorem Bc112 : compFunc Tryz.prog 112 = some BF112 := by kernel_rfl
theorem Bc113 : compFunc Tryz.prog 113 = some BF113 := by kernel_rfl
theorem Bc120 : compFunc Tryz.prog 120 = some BF120 := by kernel_rfl
theorem Bc137 : compFunc Tryz.prog 137 = some BF137 := by kernel_rfl
theorem Bc138 : compFunc Tryz.prog 138 = some BF138 := by kernel_rfl
theorem Bc139 : compFunc Tryz.prog 139 = some BF139 := by kernel_rfl
end Go.Eng
