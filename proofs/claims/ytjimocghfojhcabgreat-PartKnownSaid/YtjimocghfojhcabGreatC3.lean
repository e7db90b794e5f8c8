/- The abstract code of these functions is that of the translated ones. Without conditions. -/
import Derived.Test.YtjimocghfojhcabGreatT2
import Derived.Test.YtjimocghfojhcabGreatChecked
import Derived.KernelRfl
namespace Go.Eng
open Go.Proofs
theorem Bc140 : compFunc Tryz.prog 140 = some BF140 := by kernel_rfl
theorem Bc141 : compFunc Tryz.prog 141 = some BF141 := by kernel_rfl
theorem Bc142 : compFunc Tryz.prog 142 = some BF142 := by kernel_rfl
theorem Bc143 : compFunc Tryz.prog 143 = some BF143 := by kernel_rfl
theorem Bc144 : compFunc Tryz.prog 144 = some BF144 := by kernel_rfl
theorem Bc145 : compFunc Tryz.prog 145 = some BF145 := by kernel_rfl
theorem Bc146 : compFunc Tryz.prog 146 = some BF146 := by kernel_rfl
theorem Bc147 : compFunc Tryz.prog 147 = some BF147 := by kernel_rfl
theorem Bc148 : compFunc Tryz.prog 148 = some BF148 := by kernel_rfl
theorem Bc149 : compFunc Tryz.prog 149 = some BF149 := by kernel_rfl
theorem Bc150 : compFunc Tryz.prog 150 = some BF150 := by kernel_rfl
theorem Bc151 : compFunc Tryz.prog 151 = some BF151 := by kernel_rfl
theorem Bc152 : compFunc Tryz.prog 152 = some BF152 := by kernel_rfl
theorem Bc153 : compFunc Tryz.prog 153 = some BF153 := by kernel_rfl
theorem Bc154 : compFunc Tryz.prog 154 = some BF154 := by kernel_rfl
theorem Bc155 : compFunc Tryz.prog 155 = some BF155 := by kernel_rfl
theorem Bc156 : compFunc Tryz.prog 156 = some BF156 := by kernel_rfl
theorem Bc157 : compFunc Tryz.prog 157 = some BF157 := by kernel_rfl
theorem Bc158 : compFunc Tryz.prog 158 = some BF158 := by kernel_rfl
theorem Bc159 : compFunc Tryz.prog 159 = some BF159 := by kernel_rfl
theorem Bc160 : compFunc Tryz.prog 160 = some BF160 := by kernel_rfl
theorem Bc161 : compFunc Tryz.prog 161 = some BF161 := by kernel_rfl
theorem Bc162 : compFunc Tryz.prog 162 = some BF162 := by kernel_rfl
theorem Bc163 : compFunc Tryz.prog 163 = some BF163 := by kernel_rfl
theorem Bc164 : compFunc Tryz.prog 164 = some BF164 := by kernel_rfl
theorem Bc165 : compFunc Tryz.prog 165 = some BF165 := by kernel_rfl
theorem Bc166 : compFunc Tryz.prog 166 = some BF166 := by kernel_rfl
theorem Bc167 : compFunc Tryz.prog 167 = some BF167 := by kernel_rfl
theorem Bc168 : compFunc Tryz.prog 168 = some BF168 := by kernel_rfl
theorem Bc169 : compFunc Tryz.prog 169 = some BF169 := by kernel_rfl
theorem Bc171 : compFunc Tryz.prog 171 = some BF171 := by kernel_rfl
theorem Bc172 : compFunc Tryz.prog 172 = some BF172 := by kernel_rfl
theorem Bc173 : compFunc Tryz.prog 173 = some BF173 := by kernel_rfl
theorem Bc174 : compFunc Tryz.prog 174 = some BF174 := by kernel_rfl
theorem Bc175 : compFunc Tryz.prog 175 = some BF175 := by kernel_rfl
theorem Bc176 : compFunc Tryz.prog 176 = some BF176 := by kernel_rfl
theorem Bc177 : compFunc Tryz.prog 177 = some BF177 := by kernel_rfl
theorem Bc178 : compFunc Tryz.prog 178 = some BF178 := by kernel_rfl
end Go.Eng
