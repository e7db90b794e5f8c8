/- Parts of the runs, reckoned. Without conditions. -/
import Derived.Test.YtjimocghfojhcabGreatDkS
import Derived.KernelRfl
namespace Go.Eng
theorem Dwrun2_0 : runR (execFS Dtab.getF DwT.getF 400) (headC (nthC 2 DF25.body)) DwS2_0 [[0, 1, 2, 3, 4, 5, 463], [0, 1, 2, 3, 4, 5, 463], [0, 1, 2, 3, 4, 5, 463], [0, 1, 2, 3, 4, 5, 463]] = some ([DwS3_0, DwS3_0, DwS3_0, DwS3_0].map fun t => (.nrm, t)) := by kernel_rfl
end Go.Eng
