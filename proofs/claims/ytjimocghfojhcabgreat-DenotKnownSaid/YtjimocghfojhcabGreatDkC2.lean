/- The abstract code of these functions is that of the translated ones. Without conditions. -/
import Derived.Test.YtjimocghfojhcabGreatDkT2
import Derived.Test.YtjimocghfojhcabGreatChecked
import Derived.KernelRfl
namespace Go.Eng
open Go.Proofs
theorem Dc102 : compFunc Tryz.prog 102 = some DF102 := by kernel_rfl
theorem Dc104 : compFunc Tryz.prog 104 = some DF104 := by kernel_rfl
theorem Dc105 : compFunc Tryz.prog 105 = some DF105 := by kernel_rfl
theorem Dc106 : compFunc Tryz.prog 106 = some DF106 := by kernel_rfl
theorem Dc107 : compFunc Tryz.prog 107 = some DF107 := by kernel_rfl
theorem Dc108 : compFunc Tryz.prog 108 = some DF108 := by kernel_rfl
theorem Dc109 : compFunc Tryz.prog 109 = some DF109 := by kernel_rfl
theorem Dc110 : compFunc Tryz.prog 110 = some DF110 := by kernel_rfl
theorem Dc114 : compFunc Tryz.prog 114 = some DF114 := by kernel_rfl
theorem Dc115 : compFunc Tryz.prog 115 = some DF115 := by kernel_rfl
theorem Dc116 : compFunc Tryz.prog 116 = some DF116 := by kernel_rfl
theorem Dc117 : compFunc Tryz.prog 117 = some DF117 := by kernel_rfl
theorem Dc118 : compFunc Tryz.prog 118 = some DF118 := by kernel_rfl
theorem Dc119 : compFunc Tryz.prog 119 = some DF119 := by kernel_rfl
theorem Dc120 : compFunc Tryz.prog 120 = some DF120 := by kernel_rfl
theorem Dc121 : compFunc Tryz.prog 121 = some DF121 := by kernel_rfl
theorem Dc122 : compFunc Tryz.prog 122 = some DF122 := by kernel_rfl
theorem Dc123 : compFunc Tryz.prog 123 = some DF123 := by kernel_rfl
theorem Dc124 : compFunc Tryz.prog 124 = some DF124 := by kernel_rfl
theorem Dc133 : compFunc Tryz.prog 133 = some DF133 := by kernel_rfl
theorem Dc134 : compFunc Tryz.prog 134 = some DF134 := by kernel_rfl
theorem Dc135 : compFunc Tryz.prog 135 = some DF135 := by kernel_rfl
theorem Dc136 : compFunc Tryz.prog 136 = some DF136 := by kernel_rfl
theorem Dc137 : compFunc Tryz.prog 137 = some DF137 := by kernel_rfl
theorem Dc138 : compFunc Tryz.prog 138 = some DF138 := by kernel_rfl
theorem Dc139 : compFunc Tryz.prog 139 = some DF139 := by kernel_rfl
theorem Dc140 : compFunc Tryz.prog 140 = some DF140 := by kernel_rfl
theorem Dc141 : compFunc Tryz.prog 141 = some DF141 := by kernel_rfl
theorem Dc142 : compFunc Tryz.prog 142 = some DF142 := by kernel_rfl
theorem Dc143 : compFunc Tryz.prog 143 = some DF143 := by kernel_rfl
theorem Dc144 : compFunc Tryz.prog 144 = some DF144 := by kernel_rfl
theorem Dc145 : compFunc Tryz.prog 145 = some DF145 := by kernel_rfl
theorem Dc146 : compFunc Tryz.prog 146 = some DF146 := by kernel_rfl
theorem Dc147 : compFunc Tryz.prog 147 = some DF147 := by kernel_rfl
theorem Dc148 : compFunc Tryz.prog 148 = some DF148 := by kernel_rfl
theorem Dc149 : compFunc Tryz.prog 149 = some DF149 := by kernel_rfl
theorem Dc150 : compFunc Tryz.prog 150 = some DF150 := by kernel_rfl
theorem Dc151 : compFunc Tryz.prog 151 = some DF151 := by kernel_rfl
theorem Dc152 : compFunc Tryz.prog 152 = some DF152 := by kernel_rfl
theorem Dc153 : compFunc Tryz.prog 153 = some DF153 := by kernel_rfl
theorem Dc154 : compFunc Tryz.prog 154 = some DF154 := by kernel_rfl
theorem Dc155 : compFunc Tryz.prog 155 = some DF155 := by kernel_rfl
theorem Dc156 : compFunc Tryz.prog 156 = some DF156 := by kernel_rfl
theorem Dc157 : compFunc Tryz.prog 157 = some DF157 := by kernel_rfl
end Go.Eng
