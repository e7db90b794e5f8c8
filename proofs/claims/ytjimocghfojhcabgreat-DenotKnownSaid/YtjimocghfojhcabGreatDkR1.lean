/- Parts of the runs, reckoned. Without conditions. -/
import Derived.Test.YtjimocghfojhcabGreatDkS
import Derived.KernelRfl
namespace Go.Eng
theorem Dwrun0_0 : runR (execFS Dtab.getF DwT.getF 400) (headC (nthC 0 DF25.body)) DwS0_0 [[]] = some ([DwS1_0].map fun t => (.nrm, t)) := by kernel_rfl
theorem Dwrun1_0 : runR (execFS Dtab.getF DwT.getF 400) (headC (nthC 1 DF25.body)) DwS1_0 [[14, 2, 3, 15, 13, 12]] = some ([DwS2_0].map fun t => (.nrm, t)) := by kernel_rfl
theorem Dwrun4_0 : runR (execFS Dtab.getF DwT.getF 400) (headC (nthC 4 DF25.body)) DwS4_0 [[0, 1, 2, 3, 4, 5, 6, 7, 23, 34, 8]] = some ([DwS5_0].map fun t => (.nrm, t)) := by kernel_rfl
theorem Dwrun5_0 : runR (execFS Dtab.getF DwT.getF 400) (headC (nthC 5 DF25.body)) DwS5_0 [[0, 1, 2, 3, 4, 5, 6, 7, 8, 9, 10, 11, 12]] = some ([DwS6_0].map fun t => (.nrm, t)) := by kernel_rfl
theorem Dwrun6_0 : runL (execFS Dtab.getF DwT.getF 400) (nthC 6 DF25.body) DwS6_0 DF25.res = true := by kernel_rfl
theorem Dkrun0_0 : runR (execFS Dtab.getF DkT.getF 400) (headC (nthC 0 DF7.body)) DkS0_0 [[]] = some ([DkS1_0].map fun t => (.nrm, t)) := by kernel_rfl
theorem Dkrun1_0 : runR (execFS Dtab.getF DkT.getF 400) (headC (nthC 1 DF7.body)) DkS1_0 [[14, 2, 3, 15, 13, 12]] = some ([DkS2_0].map fun t => (.nrm, t)) := by kernel_rfl
theorem Dkrun2_0 : runR (execFS Dtab.getF DkT.getF 400) (headC (nthC 2 DF7.body)) DkS2_0 [[0, 1, 2, 3, 4, 5]] = some ([DkS3_0].map fun t => (.nrm, t)) := by kernel_rfl
theorem Dkrun3_0 : runR (execFS Dtab.getF DkT.getF 400) (headC (nthC 3 DF7.body)) DkS3_0 [[0, 1, 2, 3, 4, 5]] = some ([DkS4_0].map fun t => (.nrm, t)) := by kernel_rfl
theorem Dkrun4_0 : runR (execFS Dtab.getF DkT.getF 400) (headC (nthC 4 DF7.body)) DkS4_0 [[0, 1, 2, 3, 4, 5, 6]] = some ([DkS5_0].map fun t => (.nrm, t)) := by kernel_rfl
theorem Dkrun5_0 : runR (execFS Dtab.getF DkT.getF 400) (headC (nthC 5 DF7.body)) DkS5_0 [[0, 1, 2, 3, 4, 5, 6]] = some ([DkS6_0].map fun t => (.nrm, t)) := by kernel_rfl
theorem Dkrun6_0 : runR (execFS Dtab.getF DkT.getF 400) (headC (nthC 6 DF7.body)) DkS6_0 [[0, 1, 2, 3, 4, 5, 8, 7, 6]] = some ([DkS7_0].map fun t => (.nrm, t)) := by kernel_rfl
theorem Dkrun7_0 : runR (execFS Dtab.getF DkT.getF 400) (headC (nthC 7 DF7.body)) DkS7_0 [[0, 1, 2, 3, 4, 5, 6, 7, 11, 12, 8]] = some ([DkS8_0].map fun t => (.nrm, t)) := by kernel_rfl
theorem Dkrun8_0 : runR (execFS Dtab.getF DkT.getF 400) (headC (nthC 8 DF7.body)) DkS8_0 [[0, 1, 2, 3, 4, 5, 6, 7, 8, 9, 10]] = some ([DkS9_0].map fun t => (.nrm, t)) := by kernel_rfl
theorem Dkrun9_0 : runR (execFS Dtab.getF DkT.getF 400) (headC (nthC 9 DF7.body)) DkS9_0 [[0, 1, 2, 3, 4, 5, 6, 7, 8, 9, 12, 10]] = some ([DkS10_0].map fun t => (.nrm, t)) := by kernel_rfl
theorem Dkrun10_0 : runR (execFS Dtab.getF DkT.getF 400) (headC (nthC 10 DF7.body)) DkS10_0 [[0, 1, 2, 3, 4, 5, 6, 7, 8, 9, 10, 11]] = some ([DkS11_0].map fun t => (.nrm, t)) := by kernel_rfl
theorem Dkrun11_0 : runR (execFS Dtab.getF DkT.getF 400) (headC (nthC 11 DF7.body)) DkS11_0 [[0, 1, 2, 3, 4, 5, 6, 7, 8, 9, 10, 452, 11, 12, 14, 15]] = some ([DkS12_0].map fun t => (.nrm, t)) := by kernel_rfl
theorem Dkrun12_0 : runR (execFS Dtab.getF DkT.getF 400) (headC (nthC 12 DF7.body)) DkS12_0 [[0, 1, 2, 3, 4, 5, 6, 7, 8, 9, 10, 11, 16, 12, 13, 14, 15]] = some ([DkS13_0].map fun t => (.nrm, t)) := by kernel_rfl
theorem Dkrun14_0 : runR (execFS Dtab.getF DkT.getF 400) (headC (nthC 14 DF7.body)) DkS14_0 [[0, 1, 2, 3, 4, 5, 6, 7, 8, 9, 10, 11, 12, 13, 14, 15, 16, 17]] = some ([DkS15_0].map fun t => (.nrm, t)) := by kernel_rfl
theorem Dkrun16_0 : runR (execFS Dtab.getF DkT.getF 400) (headC (nthC 16 DF7.body)) DkS16_0 [[0, 1, 2, 3, 4, 5, 6, 7, 8, 9, 10, 11, 12, 13, 14, 15, 16, 17, 18]] = some ([DkS17_0].map fun t => (.nrm, t)) := by kernel_rfl
theorem Dkrun18_0 : runR (execFS Dtab.getF DkT.getF 400) (headC (nthC 18 DF7.body)) DkS18_0 [[0, 1, 2, 3, 4, 5, 6, 7, 8, 9, 10, 11, 12, 13, 14, 15, 21, 16, 17, 18, 19]] = some ([DkS19_0].map fun t => (.nrm, t)) := by kernel_rfl
theorem Dkrun19_0 : runR (execFS Dtab.getF DkT.getF 400) (headC (nthC 19 DF7.body)) DkS19_0 [[0, 1, 2, 3, 4, 5, 6, 7, 8, 9, 10, 11, 12, 13, 14, 15, 16, 17, 18, 19, 20]] = some ([DkS20_0].map fun t => (.nrm, t)) := by kernel_rfl
theorem Dkrun20_0 : runR (execFS Dtab.getF DkT.getF 400) (headC (nthC 20 DF7.body)) DkS20_0 [[0, 1, 2, 3, 4, 5, 6, 7, 8, 9, 10, 11, 12, 13, 14, 15, 16, 17, 18, 19, 20]] = some ([DkS21_0].map fun t => (.nrm, t)) := by kernel_rfl
theorem Dkrun21_0 : runR (execFS Dtab.getF DkT.getF 400) (headC (nthC 21 DF7.body)) DkS21_0 [[0, 1, 2, 3, 4, 5, 6, 7, 8, 9, 10, 11, 12, 13, 14, 15, 16, 202, 17, 18, 19, 20, 26, 27]] = some ([DkS22_0].map fun t => (.nrm, t)) := by kernel_rfl
theorem Dkrun22_0 : runR (execFS Dtab.getF DkT.getF 400) (headC (nthC 22 DF7.body)) DkS22_0 [[0, 1, 2, 3, 4, 5, 6, 7, 8, 9, 10, 11, 12, 13, 14, 15, 16, 17, 18, 19, 20, 21, 22, 23, 24, 25, 26, 27, 28]] = some ([DkS23_0].map fun t => (.nrm, t)) := by kernel_rfl
theorem Dkrun23_0 : runL (execFS Dtab.getF DkT.getF 400) (nthC 23 DF7.body) DkS23_0 DF7.res = true := by kernel_rfl
end Go.Eng
