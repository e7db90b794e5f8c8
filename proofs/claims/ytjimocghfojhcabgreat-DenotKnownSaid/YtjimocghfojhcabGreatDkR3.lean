/- Parts of the runs, reckoned. Without conditions. -/
import Derived.Test.YtjimocghfojhcabGreatDkS
import Derived.KernelRfl
namespace Go.Eng
theorem Dwrun3_0 : runR (execFS Dtab.getF DwT.getF 400) (headC (nthC 3 DF25.body)) DwS3_0 [[0, 1, 2, 3, 4, 5, 6, 490, 7], [0, 1, 2, 3, 4, 5, 6, 490, 7], [0, 1, 2, 3, 4, 5, 6, 490, 7], [0, 1, 2, 3, 4, 5, 6, 490, 7]] = some ([DwS4_0, DwS4_0, DwS4_0, DwS4_0].map fun t => (.nrm, t)) := by kernel_rfl
end Go.Eng
