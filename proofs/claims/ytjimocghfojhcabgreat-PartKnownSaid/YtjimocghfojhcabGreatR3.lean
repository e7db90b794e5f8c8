/- Parts of the run, reckoned. Without conditions. -/
import Derived.Test.YtjimocghfojhcabGreatS
import Derived.KernelRfl
namespace Go.Eng
theorem Brun25 : ((exec Btab.get 400).code none (headC (nthC 25 BF3.body)) BS25).map (prunedAll [[1, 5, 8, 47, 49, 58, 62, 63, 64, 66, 73, 74, 75, 76, 77, 78, 79, 80, 96, 98, 101, 140, 142, 151, 155, 156, 157, 159, 166, 167, 168, 169, 170, 171, 172, 173, 189, 194, 195, 200, 201, 242, 306, 328, 354, 386, 796, 820]]) = some ([BS26].map fun t => (.nrm, t)) := by kernel_rfl
end Go.Eng
