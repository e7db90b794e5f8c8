/- The abstract code of the functions that the statement reaches: second half, and their table. Without conditions. -/
import Derived.Test.YtjimocghfojhcabGreatT1
namespace Go.Eng
set_option maxRecDepth 100000
set_option linter.unusedVariables false
/-- slices.stableCmpFunc[anabranch/api.Entry] -/
def BF103 : AFunc := ⟨63, [], (.seq (.region [⟨some 6, .move (.c (.int .i64 20)), none, []⟩] .seq)
  (.seq (.region [⟨some 10, .move (.t 6), none, []⟩,
    ⟨some 7, .move (.c (.int .i64 0)), none, []⟩,
    ⟨some 8, .move (.t 10), none, []⟩] .seq)
  (.seq (.block 0 (.loop (.seq (.seq (.region [⟨some 11, .move (.t 8), none, []⟩,
    ⟨some 12, .move (.t 1), none, []⟩,
    ⟨some 13, .bin .leq (.t 11) (.t 12), none, []⟩] .seq)
  (.cond (.t 13) .skip
  (.exit 0)))
  (.block 1 (.seq (.region [⟨some 14, .move (.t 0), none, []⟩,
    ⟨some 15, .move (.t 7), none, []⟩,
    ⟨some 16, .move (.t 8), none, []⟩,
    ⟨some 17, .move (.t 2), none, []⟩,
    ⟨some 18, .callF 171 [(.t 14), (.t 15), (.t 16), (.t 17)], none, []⟩] .seq)
  (.seq (.region [⟨some 19, .move (.t 8), none, []⟩,
    ⟨some 7, .move (.t 19), none, []⟩] .seq)
  (.region [⟨some 20, .move (.t 8), none, []⟩,
    ⟨some 21, .move (.t 6), none, []⟩,
    ⟨some 22, .bin .add (.t 20) (.t 21), none, []⟩,
    ⟨some 8, .move (.t 22), none, []⟩] .seq)))))))
  (.seq (.region [⟨some 23, .move (.t 0), none, []⟩,
    ⟨some 24, .move (.t 7), none, []⟩,
    ⟨some 25, .move (.t 1), none, []⟩,
    ⟨some 26, .move (.t 2), none, []⟩,
    ⟨some 27, .callF 171 [(.t 23), (.t 24), (.t 25), (.t 26)], none, []⟩] .seq)
  (.block 2 (.loop (.seq (.seq (.region [⟨some 28, .move (.t 6), none, []⟩,
    ⟨some 29, .move (.t 1), none, []⟩,
    ⟨some 30, .bin .lss (.t 28) (.t 29), none, []⟩] .seq)
  (.cond (.t 30) .skip
  (.exit 2)))
  (.block 3 (.seq (.region [⟨some 31, .move (.t 6), none, []⟩,
    ⟨some 32, .bin .mul (.c (.int .i64 2)) (.t 31), none, []⟩,
    ⟨some 7, .move (.c (.int .i64 0)), none, []⟩,
    ⟨some 8, .move (.t 32), none, []⟩] .seq)
  (.seq (.block 4 (.loop (.seq (.seq (.region [⟨some 33, .move (.t 8), none, []⟩,
    ⟨some 34, .move (.t 1), none, []⟩,
    ⟨some 35, .bin .leq (.t 33) (.t 34), none, []⟩] .seq)
  (.cond (.t 35) .skip
  (.exit 4)))
  (.block 5 (.seq (.region [⟨some 36, .move (.t 0), none, []⟩,
    ⟨some 37, .move (.t 7), none, []⟩,
    ⟨some 38, .move (.t 7), none, []⟩,
    ⟨some 39, .move (.t 6), none, []⟩,
    ⟨some 40, .bin .add (.t 38) (.t 39), none, []⟩,
    ⟨some 41, .move (.t 8), none, []⟩,
    ⟨some 42, .move (.t 2), none, []⟩,
    ⟨some 43, .callF 172 [(.t 36), (.t 37), (.t 40), (.t 41), (.t 42)], none, []⟩] .seq)
  (.seq (.region [⟨some 44, .move (.t 8), none, []⟩,
    ⟨some 7, .move (.t 44), none, []⟩] .seq)
  (.region [⟨some 45, .move (.t 8), none, []⟩,
    ⟨some 46, .move (.t 6), none, []⟩,
    ⟨some 47, .bin .mul (.c (.int .i64 2)) (.t 46), none, []⟩,
    ⟨some 48, .bin .add (.t 45) (.t 47), none, []⟩,
    ⟨some 8, .move (.t 48), none, []⟩] .seq)))))))
  (.seq (.seq (.region [⟨some 49, .move (.t 7), none, []⟩,
    ⟨some 50, .move (.t 6), none, []⟩,
    ⟨some 51, .bin .add (.t 49) (.t 50), none, []⟩,
    ⟨some 9, .move (.t 51), none, []⟩] .seq)
  (.seq (.region [⟨some 52, .move (.t 9), none, []⟩,
    ⟨some 53, .move (.t 1), none, []⟩,
    ⟨some 54, .bin .lss (.t 52) (.t 53), none, []⟩] .seq)
  (.cond (.t 54) (.region [⟨some 55, .move (.t 0), none, []⟩,
    ⟨some 56, .move (.t 7), none, []⟩,
    ⟨some 57, .move (.t 9), none, []⟩,
    ⟨some 58, .move (.t 1), none, []⟩,
    ⟨some 59, .move (.t 2), none, []⟩,
    ⟨some 60, .callF 172 [(.t 55), (.t 56), (.t 57), (.t 58), (.t 59)], none, []⟩] .seq)
  .skip)))
  (.region [⟨some 61, .move (.t 6), none, []⟩,
    ⟨some 62, .bin .mul (.t 61) (.c (.int .i64 2)), none, []⟩,
    ⟨some 6, .move (.t 62), none, []⟩] .seq))))))))))))⟩
/-- (*anabranch/table.Table).Try -/
def BF104 : AFunc := ⟨49, [.cell1 6], (.seq (.region [⟨some 4, .box 86 (.t 1), none, []⟩,
    ⟨some 6, .alloc 63 [(.int .i64 0)], none, []⟩] .seq)
  (.seq (.seq (.region [⟨some 8, .move (.t 0), none, []⟩,
    ⟨some 9, .isNil .p false (.t 8) (.c .ptr0), none, []⟩] .seq)
  (.cond (.t 9) (.seq (.region [⟨none, .store 1 (.t 6) (.c (.int .i64 1)), none, []⟩] .seq)
  .ret)
  .skip))
  (.seq (.region [⟨none, .defer (.c (.fn 173 [] [])) [(.t 6)], none, []⟩] .seq)
  (.seq (.region [⟨some 10, .move (.t 0), none, []⟩,
    ⟨some 11, .nilCheck (.t 10), none, []⟩,
    ⟨some 12, .fieldAddr 9 (.t 11), none, []⟩,
    ⟨some 13, .load1 (.t 12), none, []⟩,
    ⟨some 14, .len .sl (.t 13), none, []⟩,
    ⟨some 15, .bin .lss (.t 14) (.c (.int .i64 64)), none, []⟩,
    ⟨some 16, .callF 174 [(.t 15), (.c (.int .i64 8))], none, []⟩] .seq)
  (.seq (.region [⟨some 17, .fieldAddr 0 (.t 4), none, []⟩,
    ⟨some 18, .load1 (.t 17), none, []⟩,
    ⟨some 19, .callF 86 [(.t 18), (.c (.int .i64 0)), (.c (.int .i64 3))], none, []⟩,
    ⟨some 20, .callF 174 [(.t 19), (.c (.int .i64 6))], none, []⟩] .seq)
  (.seq (.region [⟨some 21, .fieldAddr 1 (.t 4), none, []⟩,
    ⟨some 22, .load1 (.t 21), none, [4, 12]⟩,
    ⟨some 23, .move (.t 2), none, []⟩,
    ⟨some 24, .move (.t 0), none, []⟩,
    ⟨some 25, .callF 175 [(.t 24)], none, []⟩,
    ⟨some 26, .maxmin true [(.t 23), (.t 25)], none, []⟩,
    ⟨some 27, .bin .gtr (.t 22) (.t 26), none, []⟩,
    ⟨some 28, .move (.t 27), none, []⟩,
    ⟨some 29, .fieldAddr 1 (.t 4), some (28, true), []⟩,
    ⟨some 30, .load1 (.t 29), some (28, true), [12]⟩,
    ⟨some 31, .bin .leq (.t 30) (.c (.int .i64 1099511627776)), some (28, true), []⟩,
    ⟨some 32, .pick (.t 28) (.t 31) (.c (.bool false)), none, []⟩,
    ⟨some 33, .callF 174 [(.t 32), (.c (.int .i64 12))], none, []⟩] .sink)
  (.seq (.region [⟨some 34, .move (.t 0), none, []⟩,
    ⟨some 35, .mkFunc 176 [(.t 34)] [], none, []⟩,
    ⟨some 36, .move (.t 0), none, []⟩,
    ⟨some 37, .mkFunc 177 [(.t 36)] [], none, []⟩,
    ⟨some 38, .move (.t 0), none, []⟩,
    ⟨some 39, .mkFunc 178 [(.t 38)] [], none, []⟩,
    ⟨some 40, .move (.t 0), none, []⟩,
    ⟨some 41, .mkFunc 179 [(.t 40)] [], none, []⟩,
    ⟨some 42, .build [.fn0, .fn0, .fn0, .fn0] [(0, 1, (.t 35)), (1, 1, (.t 37)), (2, 1, (.t 39)), (3, 1, (.t 41))], none, []⟩,
    ⟨some 7, .alloc 253 [.fn0, .fn0, .fn0, .fn0], none, []⟩,
    ⟨none, .store 4 (.t 7) (.t 42), none, []⟩] .seq)
  (.seq (.region [⟨some 43, .fieldAddr 0 (.t 4), none, []⟩,
    ⟨some 44, .load1 (.t 43), none, [5]⟩,
    ⟨some 45, .indexAddrA 4 1 (.t 7) (.t 44), none, []⟩,
    ⟨some 46, .load1 (.t 45), none, [5]⟩,
    ⟨some 47, .loadN 10 (.t 4), none, [5]⟩,
    ⟨some 48, .callV (.t 46) [(.t 47)], none, []⟩] .sink)
  (.seq (.region [⟨none, .store 1 (.t 6) (.c (.int .i64 0)), none, []⟩] .seq)
  .ret)))))))))⟩
/-- slices.Clone[[]int,int] -/
def BF105 : AFunc := ⟨8, [.tmp 2], (.seq (.region [⟨some 2, .move (.c .sl0), none, []⟩] .seq)
  (.seq (.seq (.region [⟨some 3, .move (.t 0), none, []⟩,
    ⟨some 4, .isNil .s false (.t 3) (.c .sl0), none, []⟩] .seq)
  (.cond (.t 4) (.seq (.region [⟨some 2, .move (.c .sl0), none, []⟩] .seq)
  .ret)
  .skip))
  (.seq (.region [⟨some 5, .buildSlice 3 0 1 [] [], none, []⟩,
    ⟨some 6, .move (.t 0), none, []⟩,
    ⟨some 7, .append 3 1 8 [(.int .i64 0)] (.t 5) (.t 6), none, []⟩,
    ⟨some 2, .move (.t 7), none, []⟩] .seq)
  .ret)))⟩
/-- (*anabranch/table.Table).give -/
def BF106 : AFunc := ⟨56, [], (.seq (.region [⟨some 11, .move (.t 2), none, []⟩,
    ⟨some 12, .move (.t 3), none, []⟩,
    ⟨some 13, .callF 180 [(.t 11), (.t 12)], none, []⟩,
    ⟨some 14, .len .sl (.t 13), none, []⟩,
    ⟨some 15, .move (.c (.int .i64 0)), none, []⟩] .seq)
  (.block 0 (.loop (.seq (.region [⟨some 16, .bin .lss (.t 15) (.t 14), none, []⟩] .seq)
  (.seq (.cond (.t 16) .skip
  (.exit 0))
  (.seq (.block 1 (.seq (.region [⟨some 17, .move (.t 15), none, []⟩,
    ⟨some 18, .indexAddrS 1 (.t 13) (.t 15), none, []⟩,
    ⟨some 19, .load1 (.t 18), none, []⟩,
    ⟨some 8, .move (.t 17), none, []⟩,
    ⟨some 9, .move (.t 19), none, []⟩] .seq)
  (.seq (.region [⟨some 20, .move (.t 2), none, []⟩,
    ⟨some 21, .move (.t 8), none, []⟩,
    ⟨some 22, .indexAddrS 1 (.t 20) (.t 21), none, []⟩,
    ⟨some 23, .load1 (.t 22), none, []⟩,
    ⟨some 10, .move (.t 23), none, []⟩] .seq)
  (.region [⟨some 24, .move (.t 0), none, []⟩,
    ⟨some 25, .move (.t 10), none, []⟩,
    ⟨some 26, .move (.t 0), none, []⟩,
    ⟨some 27, .move (.t 10), none, []⟩,
    ⟨some 28, .nilCheck (.t 26), none, []⟩,
    ⟨some 29, .fieldAddr 10 (.t 28), none, []⟩,
    ⟨some 30, .indexAddrA 8 1 (.t 29) (.t 27), none, []⟩,
    ⟨some 31, .load1 (.t 30), none, [27]⟩,
    ⟨some 32, .move (.t 0), none, []⟩,
    ⟨some 33, .move (.t 10), none, []⟩,
    ⟨some 34, .nilCheck (.t 32), none, []⟩,
    ⟨some 35, .fieldAddr 10 (.t 34), none, []⟩,
    ⟨some 36, .indexAddrA 8 1 (.t 35) (.t 33), none, []⟩,
    ⟨some 37, .load1 (.t 36), none, [27]⟩,
    ⟨some 38, .len .sl (.t 37), none, []⟩,
    ⟨some 39, .move (.t 0), none, []⟩,
    ⟨some 40, .move (.t 10), none, []⟩,
    ⟨some 41, .nilCheck (.t 39), none, []⟩,
    ⟨some 42, .fieldAddr 10 (.t 41), none, []⟩,
    ⟨some 43, .indexAddrA 8 1 (.t 42) (.t 40), none, []⟩,
    ⟨some 44, .load1 (.t 43), none, [27]⟩,
    ⟨some 45, .len .sl (.t 44), none, []⟩,
    ⟨some 46, .slice 2 (.t 31) none (some (.t 38)) (some (.t 45)), none, []⟩,
    ⟨some 47, .move (.t 1), none, []⟩,
    ⟨some 48, .move (.t 9), none, []⟩,
    ⟨some 49, .build [(.int .i64 0), (.int .i64 0)] [(0, 1, (.t 47)), (1, 1, (.t 48))], none, []⟩,
    ⟨some 50, .buildSlice 178 1 2 [(.int .i64 0), (.int .i64 0)] [(0, 2, (.t 49))], none, []⟩,
    ⟨some 51, .append 178 2 16 [(.int .i64 0), (.int .i64 0)] (.t 46) (.t 50), none, []⟩,
    ⟨some 52, .nilCheck (.t 24), none, []⟩,
    ⟨some 53, .fieldAddr 10 (.t 52), none, []⟩,
    ⟨some 54, .indexAddrA 8 1 (.t 53) (.t 25), none, []⟩,
    ⟨none, .store 1 (.t 54) (.t 51), none, []⟩] .sink))))
  (.region [⟨some 55, .bin .add (.t 15) (.c (.int .i64 1)), none, []⟩,
    ⟨some 15, .move (.t 55), none, []⟩] .seq)))))))⟩
/-- slices.Sort[[]int,int] -/
def BF107 : AFunc := ⟨11, [], (.seq (.region [⟨some 3, .move (.t 0), none, []⟩,
    ⟨some 4, .len .sl (.t 3), none, []⟩,
    ⟨some 2, .move (.t 4), none, []⟩] .seq)
  (.region [⟨some 5, .move (.t 0), none, []⟩,
    ⟨some 6, .move (.t 2), none, []⟩,
    ⟨some 7, .move (.t 2), none, []⟩,
    ⟨some 8, .conv .u64 (.t 7), none, []⟩,
    ⟨some 9, .callF 182 [(.t 8)], none, []⟩,
    ⟨some 10, .callF 181 [(.t 5), (.c (.int .i64 0)), (.t 6), (.t 9)], none, []⟩] .seq))⟩
/-- slices.DeleteFunc[[]int,int] -/
def BF108 : AFunc := ⟨42, [.tmp 4], (.seq (.region [⟨some 4, .move (.c .sl0), none, []⟩] .seq)
  (.seq (.region [⟨some 8, .move (.t 0), none, []⟩,
    ⟨some 9, .move (.t 1), none, []⟩,
    ⟨some 10, .callF 183 [(.t 8), (.t 9)], none, []⟩,
    ⟨some 5, .move (.t 10), none, []⟩] .seq)
  (.seq (.seq (.region [⟨some 11, .move (.t 5), none, []⟩,
    ⟨some 12, .bin .eql (.t 11) (.c (.int .i64 (-1))), none, []⟩] .seq)
  (.cond (.t 12) (.seq (.region [⟨some 13, .move (.t 0), none, []⟩,
    ⟨some 4, .move (.t 13), none, []⟩] .seq)
  .ret)
  .skip))
  (.seq (.seq (.region [⟨some 14, .move (.t 5), none, []⟩,
    ⟨some 15, .bin .add (.t 14) (.c (.int .i64 1)), none, []⟩,
    ⟨some 6, .move (.t 15), none, []⟩] .seq)
  (.block 0 (.loop (.seq (.seq (.region [⟨some 16, .move (.t 6), none, []⟩,
    ⟨some 17, .move (.t 0), none, []⟩,
    ⟨some 18, .len .sl (.t 17), none, []⟩,
    ⟨some 19, .bin .lss (.t 16) (.t 18), none, []⟩] .seq)
  (.cond (.t 19) .skip
  (.exit 0)))
  (.seq (.block 1 (.seq (.region [⟨some 22, .move (.t 0), none, []⟩,
    ⟨some 23, .move (.t 6), none, []⟩,
    ⟨some 24, .indexAddrS 1 (.t 22) (.t 23), none, []⟩,
    ⟨some 25, .load1 (.t 24), none, []⟩,
    ⟨some 7, .move (.t 25), none, []⟩] .seq)
  (.seq (.region [⟨some 26, .move (.t 1), none, []⟩,
    ⟨some 27, .move (.t 7), none, []⟩,
    ⟨some 28, .callV (.t 26) [(.t 27)], none, []⟩,
    ⟨some 29, .un .not (.t 28), none, []⟩] .seq)
  (.cond (.t 29) (.seq (.region [⟨some 30, .move (.t 0), none, []⟩,
    ⟨some 31, .move (.t 5), none, []⟩,
    ⟨some 32, .move (.t 7), none, []⟩,
    ⟨some 33, .indexAddrS 1 (.t 30) (.t 31), none, []⟩,
    ⟨none, .store 1 (.t 33) (.t 32), none, []⟩] .seq)
  (.region [⟨some 34, .move (.t 5), none, []⟩,
    ⟨some 35, .bin .add (.t 34) (.c (.int .i64 1)), none, []⟩,
    ⟨some 5, .move (.t 35), none, []⟩] .seq))
  .skip))))
  (.region [⟨some 20, .move (.t 6), none, []⟩,
    ⟨some 21, .bin .add (.t 20) (.c (.int .i64 1)), none, []⟩,
    ⟨some 6, .move (.t 21), none, []⟩] .seq))))))
  (.seq (.region [⟨some 36, .move (.t 0), none, []⟩,
    ⟨some 37, .move (.t 5), none, []⟩,
    ⟨some 38, .slice 1 (.t 36) (some (.t 37)) none none, none, []⟩,
    ⟨none, .clear [(.int .i64 0)] (.t 38), none, []⟩] .seq)
  (.seq (.region [⟨some 39, .move (.t 0), none, []⟩,
    ⟨some 40, .move (.t 5), none, []⟩,
    ⟨some 41, .slice 1 (.t 39) none (some (.t 40)) none, none, []⟩,
    ⟨some 4, .move (.t 41), none, []⟩] .seq)
  .ret))))))⟩
/-- (*anabranch/table.Table).Add$1 -/
def BF109 : AFunc := ⟨8, [.tmp 3], (.seq (.region [⟨some 3, .move (.c (.bool false)), none, []⟩] .seq)
  (.seq (.region [⟨some 4, .move (.t 0), none, []⟩,
    ⟨some 5, .fieldAddr 3 (.t 1), none, []⟩,
    ⟨some 6, .load1 (.t 5), none, []⟩,
    ⟨some 7, .bin .eql (.t 4) (.t 6), none, []⟩,
    ⟨some 3, .move (.t 7), none, []⟩] .seq)
  .ret))⟩
/-- (*anabranch/table.Table).has -/
def BF110 : AFunc := ⟨22, [.tmp 4], (.seq (.region [⟨some 4, .move (.c (.int .i64 0)), none, []⟩] .seq)
  (.seq (.region [⟨some 5, .move (.t 0), none, []⟩,
    ⟨some 6, .move (.t 1), none, []⟩,
    ⟨some 7, .nilCheck (.t 5), none, []⟩,
    ⟨some 8, .fieldAddr 10 (.t 7), none, []⟩,
    ⟨some 9, .indexAddrA 8 1 (.t 8) (.t 6), none, []⟩,
    ⟨some 10, .load1 (.t 9), none, [18]⟩,
    ⟨some 11, .move (.t 0), none, []⟩,
    ⟨some 12, .move (.t 1), none, []⟩,
    ⟨some 13, .nilCheck (.t 11), none, []⟩,
    ⟨some 14, .fieldAddr 10 (.t 13), none, []⟩,
    ⟨some 15, .indexAddrA 8 1 (.t 14) (.t 12), none, []⟩,
    ⟨some 16, .load1 (.t 15), none, [18]⟩,
    ⟨some 17, .len .sl (.t 16), none, []⟩,
    ⟨some 18, .bin .sub (.t 17) (.c (.int .i64 1)), none, []⟩,
    ⟨some 19, .indexAddrS 2 (.t 10) (.t 18), none, []⟩,
    ⟨some 20, .fieldAddr 1 (.t 19), none, []⟩,
    ⟨some 21, .load1 (.t 20), none, [18]⟩,
    ⟨some 4, .move (.t 21), none, []⟩] .sink)
  .ret))⟩
/-- anabranch/anabranchref08.All -/
def BF111 : AFunc := ⟨69, [.tmp 2], (.seq (.region [⟨some 1, .box 55 (.t 0), none, []⟩,
    ⟨some 2, .move (.c .sl0), none, []⟩] .seq)
  (.seq (.region [⟨some 3, .move (.c .sl0), none, []⟩] .seq)
  (.seq (.seq (.region [⟨some 4, .move (.c (.int .i64 0)), none, []⟩] .seq)
  (.block 0 (.loop (.seq (.seq (.region [⟨some 7, .move (.t 4), none, []⟩,
    ⟨some 8, .fieldAddr 0 (.t 1), none, []⟩,
    ⟨some 9, .load1 (.t 8), none, []⟩,
    ⟨some 10, .len .sl (.t 9), none, []⟩,
    ⟨some 11, .bin .lss (.t 7) (.t 10), none, []⟩] .seq)
  (.cond (.t 11) .skip
  (.exit 0)))
  (.seq (.block 1 (.region [⟨some 14, .move (.t 3), none, []⟩,
    ⟨some 15, .fieldAddr 0 (.t 1), none, []⟩,
    ⟨some 16, .load1 (.t 15), none, []⟩,
    ⟨some 17, .move (.t 4), none, []⟩,
    ⟨some 18, .indexAddrS 4 (.t 16) (.t 17), none, []⟩,
    ⟨some 19, .loadN 4 (.t 18), none, []⟩,
    ⟨some 20, .build [(.int .i64 0), (.int .i64 0), (.int .i64 0), (.int .i64 0), (.int .i64 0), (.bool false)] [(0, 4, (.t 19)), (4, 1, (.c (.int .i64 0))), (5, 1, (.c (.bool false)))], none, []⟩,
    ⟨some 21, .buildSlice 206 1 6 [(.int .i64 0), (.int .i64 0), (.int .i64 0), (.int .i64 0), (.int .i64 0), (.bool false)] [(0, 6, (.t 20))], none, []⟩,
    ⟨some 22, .append 206 6 48 [(.int .i64 0), (.int .i64 0), (.int .i64 0), (.int .i64 0), (.int .i64 0), (.bool false)] (.t 14) (.t 21), none, []⟩,
    ⟨some 3, .move (.t 22), none, []⟩] .seq))
  (.region [⟨some 12, .move (.t 4), none, []⟩,
    ⟨some 13, .bin .add (.t 12) (.c (.int .i64 1)), none, []⟩,
    ⟨some 4, .move (.t 13), none, []⟩] .seq))))))
  (.seq (.seq (.region [⟨some 5, .move (.c (.int .i64 0)), none, []⟩] .seq)
  (.block 2 (.loop (.seq (.seq (.region [⟨some 23, .move (.t 5), none, []⟩,
    ⟨some 24, .fieldAddr 1 (.t 1), none, []⟩,
    ⟨some 25, .load1 (.t 24), none, []⟩,
    ⟨some 26, .len .sl (.t 25), none, []⟩,
    ⟨some 27, .bin .lss (.t 23) (.t 26), none, []⟩] .seq)
  (.cond (.t 27) .skip
  (.exit 2)))
  (.seq (.block 3 (.seq (.region [⟨some 30, .move (.t 3), none, []⟩,
    ⟨some 31, .fieldAddr 1 (.t 1), none, []⟩,
    ⟨some 32, .load1 (.t 31), none, []⟩,
    ⟨some 33, .move (.t 5), none, []⟩,
    ⟨some 34, .indexAddrS 5 (.t 32) (.t 33), none, []⟩,
    ⟨some 35, .fieldAddr 0 (.t 34), none, []⟩,
    ⟨some 36, .loadN 4 (.t 35), none, []⟩,
    ⟨some 37, .move (.t 5), none, []⟩,
    ⟨some 38, .bin .add (.t 37) (.c (.int .i64 1)), none, []⟩,
    ⟨some 39, .build [(.int .i64 0), (.int .i64 0), (.int .i64 0), (.int .i64 0), (.int .i64 0), (.bool false)] [(0, 4, (.t 36)), (4, 1, (.t 38)), (5, 1, (.c (.bool true)))], none, []⟩,
    ⟨some 40, .buildSlice 206 1 6 [(.int .i64 0), (.int .i64 0), (.int .i64 0), (.int .i64 0), (.int .i64 0), (.bool false)] [(0, 6, (.t 39))], none, []⟩,
    ⟨some 41, .append 206 6 48 [(.int .i64 0), (.int .i64 0), (.int .i64 0), (.int .i64 0), (.int .i64 0), (.bool false)] (.t 30) (.t 40), none, []⟩,
    ⟨some 3, .move (.t 41), none, []⟩] .seq)
  (.seq (.region [⟨some 6, .move (.c (.int .i64 0)), none, []⟩] .seq)
  (.block 4 (.loop (.seq (.seq (.region [⟨some 42, .move (.t 6), none, []⟩,
    ⟨some 43, .fieldAddr 1 (.t 1), none, []⟩,
    ⟨some 44, .load1 (.t 43), none, []⟩,
    ⟨some 45, .move (.t 5), none, []⟩,
    ⟨some 46, .indexAddrS 5 (.t 44) (.t 45), none, []⟩,
    ⟨some 47, .fieldAddr 4 (.t 46), none, []⟩,
    ⟨some 48, .load1 (.t 47), none, []⟩,
    ⟨some 49, .len .sl (.t 48), none, []⟩,
    ⟨some 50, .bin .lss (.t 42) (.t 49), none, []⟩] .seq)
  (.cond (.t 50) .skip
  (.exit 4)))
  (.seq (.block 5 (.region [⟨some 53, .move (.t 3), none, []⟩,
    ⟨some 54, .fieldAddr 1 (.t 1), none, []⟩,
    ⟨some 55, .load1 (.t 54), none, []⟩,
    ⟨some 56, .move (.t 5), none, []⟩,
    ⟨some 57, .indexAddrS 5 (.t 55) (.t 56), none, []⟩,
    ⟨some 58, .fieldAddr 4 (.t 57), none, []⟩,
    ⟨some 59, .load1 (.t 58), none, []⟩,
    ⟨some 60, .move (.t 6), none, []⟩,
    ⟨some 61, .indexAddrS 4 (.t 59) (.t 60), none, []⟩,
    ⟨some 62, .loadN 4 (.t 61), none, []⟩,
    ⟨some 63, .move (.t 5), none, []⟩,
    ⟨some 64, .bin .add (.t 63) (.c (.int .i64 1)), none, []⟩,
    ⟨some 65, .build [(.int .i64 0), (.int .i64 0), (.int .i64 0), (.int .i64 0), (.int .i64 0), (.bool false)] [(0, 4, (.t 62)), (4, 1, (.t 64)), (5, 1, (.c (.bool false)))], none, []⟩,
    ⟨some 66, .buildSlice 206 1 6 [(.int .i64 0), (.int .i64 0), (.int .i64 0), (.int .i64 0), (.int .i64 0), (.bool false)] [(0, 6, (.t 65))], none, []⟩,
    ⟨some 67, .append 206 6 48 [(.int .i64 0), (.int .i64 0), (.int .i64 0), (.int .i64 0), (.int .i64 0), (.bool false)] (.t 53) (.t 66), none, []⟩,
    ⟨some 3, .move (.t 67), none, []⟩] .seq))
  (.region [⟨some 51, .move (.t 6), none, []⟩,
    ⟨some 52, .bin .add (.t 51) (.c (.int .i64 1)), none, []⟩,
    ⟨some 6, .move (.t 52), none, []⟩] .seq))))))))
  (.region [⟨some 28, .move (.t 5), none, []⟩,
    ⟨some 29, .bin .add (.t 28) (.c (.int .i64 1)), none, []⟩,
    ⟨some 5, .move (.t 29), none, []⟩] .seq))))))
  (.seq (.region [⟨some 68, .move (.t 3), none, []⟩,
    ⟨some 2, .move (.t 68), none, []⟩] .seq)
  .ret)))))⟩
/-- anabranch/anabranchref04.May -/
def BF112 : AFunc := ⟨91, [.tmp 2], (.seq (.region [⟨some 1, .box 84 (.t 0), none, []⟩,
    ⟨some 2, .move (.c (.bool false)), none, []⟩] .seq)
  (.seq (.seq (.region [⟨some 3, .loadN 4 (.t 1), none, []⟩,
    ⟨some 4, .callF 113 [(.t 3)], none, []⟩,
    ⟨some 5, .bin .neq (.t 4) (.c (.int .i64 1)), none, []⟩,
    ⟨some 6, .move (.t 5), none, []⟩,
    ⟨some 7, .fieldAddr 3 (.t 1), some (6, true), []⟩,
    ⟨some 8, .load1 (.t 7), some (6, true), []⟩,
    ⟨some 9, .bin .neq (.t 8) (.c (.int .i64 0)), some (6, true), []⟩,
    ⟨some 10, .pick (.t 6) (.t 9) (.c (.bool false)), none, []⟩,
    ⟨some 11, .move (.t 10), none, []⟩,
    ⟨some 12, .fieldAddr 3 (.t 1), some (11, false), []⟩,
    ⟨some 13, .load1 (.t 12), some (11, false), []⟩,
    ⟨some 14, .bin .lss (.t 13) (.c (.int .i64 0)), some (11, false), []⟩,
    ⟨some 15, .pick (.t 11) (.c (.bool true)) (.t 14), none, []⟩,
    ⟨some 16, .move (.t 15), none, []⟩,
    ⟨some 17, .fieldAddr 3 (.t 1), some (16, false), []⟩,
    ⟨some 18, .load1 (.t 17), some (16, false), []⟩,
    ⟨some 19, .bin .gtr (.t 18) (.c (.int .i64 3)), some (16, false), []⟩,
    ⟨some 20, .pick (.t 16) (.c (.bool true)) (.t 19), none, []⟩] .seq)
  (.cond (.t 20) (.seq (.region [⟨some 2, .move (.c (.bool false)), none, []⟩] .seq)
  .ret)
  .skip))
  (.seq (.seq (.region [⟨some 21, .fieldAddr 0 (.t 1), none, []⟩,
    ⟨some 22, .load1 (.t 21), none, []⟩] .seq)
  (.block 0 (.seq (.region [⟨some 24, .bin .eql (.t 22) (.c (.int .i64 0)), none, []⟩,
    ⟨some 23, .move (.t 24), none, []⟩] .seq)
  (.cond (.t 23) (.seq (.region [⟨some 2, .move (.c (.bool true)), none, []⟩] .seq)
  .ret)
  (.seq (.region [⟨some 26, .bin .eql (.t 22) (.c (.int .i64 1)), none, []⟩,
    ⟨some 25, .move (.t 26), none, []⟩] .seq)
  (.cond (.t 25) (.seq (.region [⟨some 27, .fieldAddr 1 (.t 1), none, []⟩,
    ⟨some 28, .load1 (.t 27), none, []⟩,
    ⟨some 29, .callF 184 [(.t 28), (.c (.int .i64 1)), (.c (.int .i64 4294967295))], none, []⟩,
    ⟨some 30, .move (.t 29), none, []⟩,
    ⟨some 31, .fieldAddr 2 (.t 1), some (30, true), []⟩,
    ⟨some 32, .load1 (.t 31), some (30, true), []⟩,
    ⟨some 33, .callF 184 [(.t 32), (.c (.int .i64 0)), (.c (.int .i64 4294967295))], some (30, true), []⟩,
    ⟨some 34, .pick (.t 30) (.t 33) (.c (.bool false)), none, []⟩,
    ⟨some 2, .move (.t 34), none, []⟩] .seq)
  .ret)
  (.seq (.region [⟨some 36, .bin .eql (.t 22) (.c (.int .i64 2)), none, []⟩,
    ⟨some 35, .move (.t 36), none, []⟩] .seq)
  (.cond (.t 35) (.seq (.region [⟨some 37, .fieldAddr 1 (.t 1), none, []⟩,
    ⟨some 38, .load1 (.t 37), none, []⟩,
    ⟨some 39, .callF 184 [(.t 38), (.c (.int .i64 1)), (.c (.int .i64 1073741824))], none, []⟩,
    ⟨some 40, .move (.t 39), none, []⟩,
    ⟨some 41, .fieldAddr 2 (.t 1), some (40, true), []⟩,
    ⟨some 42, .load1 (.t 41), some (40, true), []⟩,
    ⟨some 43, .fieldAddr 1 (.t 1), some (40, true), []⟩,
    ⟨some 44, .load1 (.t 43), some (40, true), []⟩,
    ⟨some 45, .bin .sub (.t 44) (.c (.int .i64 1)), some (40, true), []⟩,
    ⟨some 46, .callF 184 [(.t 42), (.c (.int .i64 0)), (.t 45)], some (40, true), []⟩,
    ⟨some 47, .pick (.t 40) (.t 46) (.c (.bool false)), none, []⟩,
    ⟨some 2, .move (.t 47), none, []⟩] .seq)
  .ret)
  (.seq (.region [⟨some 49, .bin .eql (.t 22) (.c (.int .i64 3)), none, []⟩,
    ⟨some 48, .move (.t 49), none, []⟩] .seq)
  (.cond (.t 48) (.seq (.region [⟨some 50, .fieldAddr 1 (.t 1), none, []⟩,
    ⟨some 51, .load1 (.t 50), none, []⟩,
    ⟨some 52, .callF 184 [(.t 51), (.c (.int .i64 1)), (.c (.int .i64 3))], none, []⟩,
    ⟨some 2, .move (.t 52), none, []⟩] .seq)
  .ret)
  (.seq (.seq (.region [⟨some 54, .bin .eql (.t 22) (.c (.int .i64 4)), none, []⟩,
    ⟨some 53, .move (.t 54), none, []⟩] .seq)
  (.cond (.t 53) .skip
  (.seq (.region [⟨some 55, .bin .eql (.t 22) (.c (.int .i64 6)), none, []⟩,
    ⟨some 53, .move (.t 55), none, []⟩] .seq)
  (.cond (.t 53) .skip
  (.region [⟨some 56, .bin .eql (.t 22) (.c (.int .i64 7)), none, []⟩,
    ⟨some 53, .move (.t 56), none, []⟩] .seq)))))
  (.cond (.t 53) (.seq (.region [⟨some 57, .fieldAddr 1 (.t 1), none, []⟩,
    ⟨some 58, .load1 (.t 57), none, []⟩,
    ⟨some 59, .callF 184 [(.t 58), (.c (.int .i64 1)), (.c (.int .i64 1073741824))], none, []⟩,
    ⟨some 60, .move (.t 59), none, []⟩,
    ⟨some 61, .fieldAddr 2 (.t 1), some (60, true), []⟩,
    ⟨some 62, .load1 (.t 61), some (60, true), []⟩,
    ⟨some 63, .bin .eql (.t 62) (.c (.int .i64 0)), some (60, true), []⟩,
    ⟨some 64, .pick (.t 60) (.t 63) (.c (.bool false)), none, []⟩,
    ⟨some 2, .move (.t 64), none, []⟩] .seq)
  .ret)
  (.seq (.region [⟨some 66, .bin .eql (.t 22) (.c (.int .i64 5)), none, []⟩,
    ⟨some 65, .move (.t 66), none, []⟩] .seq)
  (.cond (.t 65) (.seq (.region [⟨some 67, .fieldAddr 1 (.t 1), none, []⟩,
    ⟨some 68, .load1 (.t 67), none, []⟩,
    ⟨some 69, .callF 184 [(.t 68), (.c (.int .i64 1)), (.c (.int .i64 1073741824))], none, []⟩,
    ⟨some 70, .move (.t 69), none, []⟩,
    ⟨some 71, .fieldAddr 2 (.t 1), some (70, true), []⟩,
    ⟨some 72, .load1 (.t 71), some (70, true), []⟩,
    ⟨some 73, .bin .gtr (.t 72) (.c (.int .i64 0)), some (70, true), []⟩,
    ⟨some 74, .pick (.t 70) (.t 73) (.c (.bool false)), none, []⟩,
    ⟨some 75, .move (.t 74), none, []⟩,
    ⟨some 76, .fieldAddr 1 (.t 1), some (75, true), []⟩,
    ⟨some 77, .load1 (.t 76), some (75, true), []⟩,
    ⟨some 78, .fieldAddr 2 (.t 1), some (75, true), []⟩,
    ⟨some 79, .load1 (.t 78), some (75, true), []⟩,
    ⟨some 80, .bin .rem (.t 77) (.t 79), some (75, true), []⟩,
    ⟨some 81, .bin .eql (.t 80) (.c (.int .i64 0)), some (75, true), []⟩,
    ⟨some 82, .pick (.t 75) (.t 81) (.c (.bool false)), none, []⟩,
    ⟨some 83, .move (.t 82), none, []⟩,
    ⟨some 84, .fieldAddr 1 (.t 1), some (83, true), []⟩,
    ⟨some 85, .load1 (.t 84), some (83, true), []⟩,
    ⟨some 86, .fieldAddr 2 (.t 1), some (83, true), []⟩,
    ⟨some 87, .load1 (.t 86), some (83, true), []⟩,
    ⟨some 88, .bin .quo (.t 85) (.t 87), some (83, true), []⟩,
    ⟨some 89, .bin .leq (.t 88) (.c (.int .i64 4)), some (83, true), []⟩,
    ⟨some 90, .pick (.t 83) (.t 89) (.c (.bool false)), none, []⟩,
    ⟨some 2, .move (.t 90), none, []⟩] .seq)
  .ret)
  .skip))))))))))))))
  (.seq (.region [⟨some 2, .move (.c (.bool false)), none, []⟩] .seq)
  .ret))))⟩
/-- anabranch/anabranchref04.Class -/
def BF113 : AFunc := ⟨16, [.tmp 2], (.seq (.region [⟨some 1, .box 84 (.t 0), none, []⟩,
    ⟨some 2, .move (.c (.int .i64 0)), none, []⟩] .seq)
  (.seq (.seq (.region [⟨some 3, .fieldAddr 0 (.t 1), none, []⟩,
    ⟨some 4, .load1 (.t 3), none, []⟩] .seq)
  (.block 0 (.seq (.seq (.region [⟨some 6, .bin .eql (.t 4) (.c (.int .i64 0)), none, []⟩,
    ⟨some 5, .move (.t 6), none, []⟩] .seq)
  (.cond (.t 5) .skip
  (.seq (.region [⟨some 7, .bin .eql (.t 4) (.c (.int .i64 1)), none, []⟩,
    ⟨some 5, .move (.t 7), none, []⟩] .seq)
  (.cond (.t 5) .skip
  (.seq (.region [⟨some 8, .bin .eql (.t 4) (.c (.int .i64 2)), none, []⟩,
    ⟨some 5, .move (.t 8), none, []⟩] .seq)
  (.cond (.t 5) .skip
  (.region [⟨some 9, .bin .eql (.t 4) (.c (.int .i64 3)), none, []⟩,
    ⟨some 5, .move (.t 9), none, []⟩] .seq)))))))
  (.cond (.t 5) (.seq (.region [⟨some 2, .move (.c (.int .i64 0)), none, []⟩] .seq)
  .ret)
  (.seq (.seq (.region [⟨some 11, .bin .eql (.t 4) (.c (.int .i64 4)), none, []⟩,
    ⟨some 10, .move (.t 11), none, []⟩] .seq)
  (.cond (.t 10) .skip
  (.seq (.region [⟨some 12, .bin .eql (.t 4) (.c (.int .i64 5)), none, []⟩,
    ⟨some 10, .move (.t 12), none, []⟩] .seq)
  (.cond (.t 10) .skip
  (.region [⟨some 13, .bin .eql (.t 4) (.c (.int .i64 6)), none, []⟩,
    ⟨some 10, .move (.t 13), none, []⟩] .seq)))))
  (.cond (.t 10) (.seq (.region [⟨some 2, .move (.c (.int .i64 1)), none, []⟩] .seq)
  .ret)
  (.seq (.region [⟨some 15, .bin .eql (.t 4) (.c (.int .i64 7)), none, []⟩,
    ⟨some 14, .move (.t 15), none, []⟩] .seq)
  (.cond (.t 14) (.seq (.region [⟨some 2, .move (.c (.int .i64 2)), none, []⟩] .seq)
  .ret)
  .skip))))))))
  (.seq (.region [⟨some 2, .move (.c (.int .i64 (-1))), none, []⟩] .seq)
  .ret)))⟩
/-- (anabranch/plan.spot).heads -/
def BF120 : AFunc := ⟨11, [.tmp 2], (.seq (.region [⟨some 1, .box 211 (.t 0), none, []⟩,
    ⟨some 2, .move (.c (.bool false)), none, []⟩] .seq)
  (.seq (.region [⟨some 3, .fieldAddr 0 (.t 1), none, []⟩,
    ⟨some 4, .load1 (.t 3), none, []⟩,
    ⟨some 5, .bin .gtr (.t 4) (.c (.int .i64 0)), none, []⟩,
    ⟨some 6, .move (.t 5), none, []⟩,
    ⟨some 7, .fieldAddr 1 (.t 1), some (6, true), []⟩,
    ⟨some 8, .load1 (.t 7), some (6, true), []⟩,
    ⟨some 9, .bin .eql (.t 8) (.c (.int .i64 0)), some (6, true), []⟩,
    ⟨some 10, .pick (.t 6) (.t 9) (.c (.bool false)), none, []⟩,
    ⟨some 2, .move (.t 10), none, []⟩] .seq)
  .ret))⟩
/-- cmp.isNaN[int] -/
def BF137 : AFunc := ⟨6, [.tmp 2], (.seq (.region [⟨some 2, .move (.c (.bool false)), none, []⟩] .seq)
  (.seq (.region [⟨some 3, .move (.t 0), none, []⟩,
    ⟨some 4, .move (.t 0), none, []⟩,
    ⟨some 5, .bin .neq (.t 3) (.t 4), none, []⟩,
    ⟨some 2, .move (.t 5), none, []⟩] .seq)
  .ret))⟩
/-- cmp.isNaN[uint32] -/
def BF138 : AFunc := ⟨6, [.tmp 2], (.seq (.region [⟨some 2, .move (.c (.bool false)), none, []⟩] .seq)
  (.seq (.region [⟨some 3, .move (.t 0), none, []⟩,
    ⟨some 4, .move (.t 0), none, []⟩,
    ⟨some 5, .bin .neq (.t 3) (.t 4), none, []⟩,
    ⟨some 2, .move (.t 5), none, []⟩] .seq)
  .ret))⟩
/-- cmp.isNaN[uint8] -/
def BF139 : AFunc := ⟨6, [.tmp 2], (.seq (.region [⟨some 2, .move (.c (.bool false)), none, []⟩] .seq)
  (.seq (.region [⟨some 3, .move (.t 0), none, []⟩,
    ⟨some 4, .move (.t 0), none, []⟩,
    ⟨some 5, .bin .neq (.t 3) (.t 4), none, []⟩,
    ⟨some 2, .move (.t 5), none, []⟩] .seq)
  .ret))⟩
/-- anabranch/oper.Check -/
def BF140 : AFunc := ⟨36, [.tmp 2], (.seq (.region [⟨some 1, .box 84 (.t 0), none, []⟩,
    ⟨some 2, .move (.c (.int .i64 0)), none, []⟩] .seq)
  (.seq (.seq (.region [⟨some 5, .fieldAddr 0 (.t 1), none, []⟩,
    ⟨some 6, .load1 (.t 5), none, []⟩,
    ⟨some 7, .bin .lss (.t 6) (.c (.int .i64 0)), none, []⟩,
    ⟨some 8, .move (.t 7), none, []⟩,
    ⟨some 9, .fieldAddr 0 (.t 1), some (8, false), []⟩,
    ⟨some 10, .load1 (.t 9), some (8, false), []⟩,
    ⟨some 11, .bin .gtr (.t 10) (.c (.int .i64 7)), some (8, false), []⟩,
    ⟨some 12, .pick (.t 8) (.c (.bool true)) (.t 11), none, []⟩] .seq)
  (.cond (.t 12) (.seq (.region [⟨some 2, .move (.c (.int .i64 13)), none, []⟩] .seq)
  .ret)
  .skip))
  (.seq (.region [⟨some 13, .callF 93 [], none, []⟩,
    ⟨some 14, .fieldAddr 0 (.t 1), none, []⟩,
    ⟨some 15, .load1 (.t 14), none, [0, 5]⟩,
    ⟨some 16, .index 8 3 true (.t 13) (.t 15), none, []⟩,
    ⟨some 3, .alloc 182 [(.int .i64 0), .fn0, .fn0], none, []⟩,
    ⟨none, .store 3 (.t 3) (.t 16), none, []⟩] .sink)
  (.seq (.region [⟨some 4, .move (.c (.int .i64 0)), none, []⟩] .seq)
  (.seq (.seq (.region [⟨some 17, .fieldAddr 0 (.t 3), none, []⟩,
    ⟨some 18, .load1 (.t 17), none, []⟩,
    ⟨some 19, .bin .eql (.t 18) (.c (.int .i64 1)), none, []⟩] .seq)
  (.cond (.t 19) (.region [⟨some 4, .move (.c (.int .i64 3)), none, []⟩] .seq)
  .skip))
  (.seq (.seq (.region [⟨some 20, .fieldAddr 3 (.t 1), none, []⟩,
    ⟨some 21, .load1 (.t 20), none, []⟩,
    ⟨some 22, .bin .lss (.t 21) (.c (.int .i64 0)), none, []⟩,
    ⟨some 23, .move (.t 22), none, []⟩,
    ⟨some 24, .fieldAddr 3 (.t 1), some (23, false), []⟩,
    ⟨some 25, .load1 (.t 24), some (23, false), []⟩,
    ⟨some 26, .move (.t 4), some (23, false), []⟩,
    ⟨some 27, .bin .gtr (.t 25) (.t 26), some (23, false), []⟩,
    ⟨some 28, .pick (.t 23) (.c (.bool true)) (.t 27), none, []⟩,
    ⟨some 29, .move (.t 28), none, []⟩,
    ⟨some 30, .fieldAddr 1 (.t 3), some (29, false), []⟩,
    ⟨some 31, .load1 (.t 30), some (29, false), []⟩,
    ⟨some 32, .loadN 4 (.t 1), some (29, false), []⟩,
    ⟨some 33, .callV (.t 31) [(.t 32)], some (29, false), []⟩,
    ⟨some 34, .un .not (.t 33), some (29, false), []⟩,
    ⟨some 35, .pick (.t 29) (.c (.bool true)) (.t 34), none, []⟩] .seq)
  (.cond (.t 35) (.seq (.region [⟨some 2, .move (.c (.int .i64 13)), none, []⟩] .seq)
  .ret)
  .skip))
  (.seq (.region [⟨some 2, .move (.c (.int .i64 0)), none, []⟩] .seq)
  .ret)))))))⟩
/-- anabranch/win.Of$1 -/
def BF141 : AFunc := ⟨9, [.tmp 2], (.seq (.region [⟨some 2, .move (.c .fn0), none, []⟩] .seq)
  (.seq (.region [⟨some 3, .load1 (.t 0), none, []⟩,
    ⟨some 4, .fieldAddr 1 (.t 1), none, []⟩,
    ⟨some 5, .load1 (.t 4), none, []⟩,
    ⟨some 6, .fieldAddr 1 (.t 1), none, []⟩,
    ⟨some 7, .load1 (.t 6), none, []⟩,
    ⟨some 8, .callF 142 [(.t 3), (.t 5), (.t 7)], none, []⟩,
    ⟨some 2, .move (.t 8), none, []⟩] .seq)
  .ret))⟩
/-- anabranch/win.from -/
def BF142 : AFunc := ⟨8, [.tmp 6], (.seq (.region [⟨some 3, .box 2 (.t 0), none, []⟩,
    ⟨some 4, .box 2 (.t 1), none, []⟩,
    ⟨some 5, .box 2 (.t 2), none, []⟩,
    ⟨some 6, .move (.c .fn0), none, []⟩] .seq)
  (.seq (.region [⟨some 7, .mkFunc 208 [] [(.t 3), (.t 5), (.t 4)], none, []⟩,
    ⟨some 6, .move (.t 7), none, []⟩] .seq)
  .ret))⟩
/-- anabranch/win.Of$2 -/
def BF143 : AFunc := ⟨9, [.tmp 2], (.seq (.region [⟨some 2, .move (.c .fn0), none, []⟩] .seq)
  (.seq (.region [⟨some 3, .load1 (.t 0), none, []⟩,
    ⟨some 4, .fieldAddr 1 (.t 1), none, []⟩,
    ⟨some 5, .load1 (.t 4), none, []⟩,
    ⟨some 6, .fieldAddr 2 (.t 1), none, []⟩,
    ⟨some 7, .load1 (.t 6), none, []⟩,
    ⟨some 8, .callF 142 [(.t 3), (.t 5), (.t 7)], none, []⟩,
    ⟨some 2, .move (.t 8), none, []⟩] .seq)
  .ret))⟩
/-- anabranch/win.Of$3 -/
def BF144 : AFunc := ⟨11, [.tmp 2], (.seq (.region [⟨some 2, .move (.c .fn0), none, []⟩] .seq)
  (.seq (.region [⟨some 3, .load1 (.t 0), none, []⟩,
    ⟨some 4, .load1 (.t 0), none, []⟩,
    ⟨some 5, .fieldAddr 1 (.t 1), none, []⟩,
    ⟨some 6, .load1 (.t 5), none, []⟩,
    ⟨some 7, .bin .add (.t 4) (.t 6), none, []⟩,
    ⟨some 8, .build [(.int .i64 0), (.int .i64 0)] [(0, 1, (.t 3)), (1, 1, (.t 7))], none, []⟩,
    ⟨some 9, .buildSlice 96 1 2 [(.int .i64 0), (.int .i64 0)] [(0, 2, (.t 8))], none, []⟩,
    ⟨some 10, .callF 145 [(.t 9)], none, []⟩,
    ⟨some 2, .move (.t 10), none, []⟩] .seq)
  .ret))⟩
/-- slices.Values[[][2]int64,[2]int64] -/
def BF145 : AFunc := ⟨4, [.tmp 2], (.seq (.region [⟨some 1, .box 163 (.t 0), none, []⟩,
    ⟨some 2, .move (.c .fn0), none, []⟩] .seq)
  (.seq (.region [⟨some 3, .mkFunc 209 [] [(.t 1)], none, []⟩,
    ⟨some 2, .move (.t 3), none, []⟩] .seq)
  .ret))⟩
/-- slices.Collect[[2]int64] -/
def BF146 : AFunc := ⟨5, [.tmp 2], (.seq (.region [⟨some 2, .move (.c .sl0), none, []⟩] .seq)
  (.seq (.region [⟨some 3, .move (.t 0), none, []⟩,
    ⟨some 4, .callF 210 [(.c .sl0), (.t 3)], none, []⟩,
    ⟨some 2, .move (.t 4), none, []⟩] .seq)
  .ret))⟩
/-- anabranch/acc.results$1 -/
def BF147 : AFunc := ⟨6, [.tmp 2, .tmp 3], (.seq (.region [⟨some 1, .box 26 (.t 0), none, []⟩,
    ⟨some 2, .move (.c (.int .i64 0)), none, []⟩,
    ⟨some 3, .move (.c (.bool false)), none, []⟩] .seq)
  (.seq (.region [⟨some 4, .fieldAddr 0 (.t 1), none, []⟩,
    ⟨some 5, .load1 (.t 4), none, []⟩,
    ⟨some 2, .move (.t 5), none, []⟩,
    ⟨some 3, .move (.c (.bool true)), none, []⟩] .seq)
  .ret))⟩
/-- anabranch/acc.results$2 -/
def BF148 : AFunc := ⟨6, [.tmp 2, .tmp 3], (.seq (.region [⟨some 1, .box 26 (.t 0), none, []⟩,
    ⟨some 2, .move (.c (.int .i64 0)), none, []⟩,
    ⟨some 3, .move (.c (.bool false)), none, []⟩] .seq)
  (.seq (.region [⟨some 4, .fieldAddr 3 (.t 1), none, []⟩,
    ⟨some 5, .load1 (.t 4), none, []⟩,
    ⟨some 2, .move (.t 5), none, []⟩,
    ⟨some 3, .move (.c (.bool true)), none, []⟩] .seq)
  .ret))⟩
/-- anabranch/acc.results$3 -/
def BF149 : AFunc := ⟨6, [.tmp 2, .tmp 3], (.seq (.region [⟨some 1, .box 26 (.t 0), none, []⟩,
    ⟨some 2, .move (.c (.int .i64 0)), none, []⟩,
    ⟨some 3, .move (.c (.bool false)), none, []⟩] .seq)
  (.seq (.region [⟨some 4, .fieldAddr 4 (.t 1), none, []⟩,
    ⟨some 5, .load1 (.t 4), none, []⟩,
    ⟨some 2, .move (.t 5), none, []⟩,
    ⟨some 3, .move (.c (.bool true)), none, []⟩] .seq)
  .ret))⟩
/-- anabranch/acc.results$4 -/
def BF150 : AFunc := ⟨14, [.tmp 2, .tmp 3], (.seq (.region [⟨some 1, .box 26 (.t 0), none, []⟩,
    ⟨some 2, .move (.c (.int .i64 0)), none, []⟩,
    ⟨some 3, .move (.c (.bool false)), none, []⟩] .seq)
  (.seq (.seq (.region [⟨some 5, .fieldAddr 2 (.t 1), none, []⟩,
    ⟨some 6, .load1 (.t 5), none, []⟩,
    ⟨some 7, .conv .i64 (.t 6), none, []⟩,
    ⟨some 4, .move (.t 7), none, []⟩] .seq)
  (.seq (.region [⟨some 8, .move (.t 4), none, []⟩,
    ⟨some 9, .bin .shr (.t 8) (.c (.int .u64 63)), none, []⟩,
    ⟨some 10, .fieldAddr 1 (.t 1), none, []⟩,
    ⟨some 11, .load1 (.t 10), none, []⟩,
    ⟨some 12, .bin .eql (.t 9) (.t 11), none, []⟩] .seq)
  (.cond (.t 12) (.seq (.region [⟨some 13, .move (.t 4), none, []⟩,
    ⟨some 2, .move (.t 13), none, []⟩,
    ⟨some 3, .move (.c (.bool true)), none, []⟩] .seq)
  .ret)
  .skip)))
  (.seq (.region [⟨some 2, .move (.c (.int .i64 0)), none, []⟩,
    ⟨some 3, .move (.c (.bool false)), none, []⟩] .seq)
  .ret)))⟩
/-- anabranch/plan.long -/
def BF151 : AFunc := ⟨38, [.tmp 2], (.seq (.region [⟨some 1, .box 55 (.t 0), none, []⟩,
    ⟨some 2, .move (.c (.bool false)), none, []⟩] .seq)
  (.seq (.region [⟨some 6, .fieldAddr 0 (.t 1), none, []⟩,
    ⟨some 7, .load1 (.t 6), none, []⟩,
    ⟨some 8, .len .sl (.t 7), none, []⟩,
    ⟨some 9, .bin .gtr (.t 8) (.c (.int .i64 4)), none, []⟩,
    ⟨some 10, .move (.t 9), none, []⟩,
    ⟨some 11, .fieldAddr 1 (.t 1), some (10, false), []⟩,
    ⟨some 12, .load1 (.t 11), some (10, false), []⟩,
    ⟨some 13, .len .sl (.t 12), some (10, false), []⟩,
    ⟨some 14, .bin .eql (.t 13) (.c (.int .i64 0)), some (10, false), []⟩,
    ⟨some 15, .pick (.t 10) (.c (.bool true)) (.t 14), none, []⟩,
    ⟨some 16, .move (.t 15), none, []⟩,
    ⟨some 17, .fieldAddr 1 (.t 1), some (16, false), []⟩,
    ⟨some 18, .load1 (.t 17), some (16, false), []⟩,
    ⟨some 19, .len .sl (.t 18), some (16, false), []⟩,
    ⟨some 20, .bin .gtr (.t 19) (.c (.int .i64 2)), some (16, false), []⟩,
    ⟨some 21, .pick (.t 16) (.c (.bool true)) (.t 20), none, []⟩,
    ⟨some 3, .move (.t 21), none, []⟩] .seq)
  (.seq (.seq (.region [⟨some 22, .fieldAddr 1 (.t 1), none, []⟩,
    ⟨some 23, .load1 (.t 22), none, []⟩,
    ⟨some 24, .len .sl (.t 23), none, []⟩,
    ⟨some 25, .move (.c (.int .i64 0)), none, []⟩] .seq)
  (.block 0 (.loop (.seq (.region [⟨some 26, .bin .lss (.t 25) (.t 24), none, []⟩] .seq)
  (.seq (.cond (.t 26) .skip
  (.exit 0))
  (.seq (.block 1 (.seq (.region [⟨some 27, .indexAddrS 5 (.t 23) (.t 25), none, []⟩,
    ⟨some 28, .loadN 5 (.t 27), none, []⟩,
    ⟨some 5, .alloc 95 [(.int .i64 0), (.int .i64 0), (.int .i64 0), (.int .i64 0), .sl0], none, []⟩,
    ⟨none, .store 5 (.t 5) (.t 28), none, []⟩] .seq)
  (.region [⟨some 29, .move (.t 3), none, []⟩,
    ⟨some 30, .move (.t 29), none, []⟩,
    ⟨some 31, .fieldAddr 4 (.t 5), some (30, false), []⟩,
    ⟨some 32, .load1 (.t 31), some (30, false), []⟩,
    ⟨some 33, .len .sl (.t 32), some (30, false), []⟩,
    ⟨some 34, .bin .gtr (.t 33) (.c (.int .i64 4)), some (30, false), []⟩,
    ⟨some 35, .pick (.t 30) (.c (.bool true)) (.t 34), none, []⟩,
    ⟨some 3, .move (.t 35), none, []⟩] .seq)))
  (.region [⟨some 36, .bin .add (.t 25) (.c (.int .i64 1)), none, []⟩,
    ⟨some 25, .move (.t 36), none, []⟩] .seq)))))))
  (.seq (.region [⟨some 37, .move (.t 3), none, []⟩,
    ⟨some 2, .move (.t 37), none, []⟩] .seq)
  .ret))))⟩
/-- anabranch/plan.nodes -/
def BF152 : AFunc := ⟨4, [.tmp 2], (.seq (.region [⟨some 1, .box 55 (.t 0), none, []⟩,
    ⟨some 2, .move (.c .fn0), none, []⟩] .seq)
  (.seq (.region [⟨some 3, .mkFunc 211 [] [(.t 1)], none, []⟩,
    ⟨some 2, .move (.t 3), none, []⟩] .seq)
  .ret))⟩
/-- slices.Clone[[]anabranch/api.Op,anabranch/api.Op] -/
def BF153 : AFunc := ⟨8, [.tmp 2], (.seq (.region [⟨some 2, .move (.c .sl0), none, []⟩] .seq)
  (.seq (.seq (.region [⟨some 3, .move (.t 0), none, []⟩,
    ⟨some 4, .isNil .s false (.t 3) (.c .sl0), none, []⟩] .seq)
  (.cond (.t 4) (.seq (.region [⟨some 2, .move (.c .sl0), none, []⟩] .seq)
  .ret)
  .skip))
  (.seq (.region [⟨some 5, .buildSlice 84 0 4 [] [], none, []⟩,
    ⟨some 6, .move (.t 0), none, []⟩,
    ⟨some 7, .append 84 4 32 [(.int .i64 0), (.int .i64 0), (.int .i64 0), (.int .i64 0)] (.t 5) (.t 6), none, []⟩,
    ⟨some 2, .move (.t 7), none, []⟩] .seq)
  .ret)))⟩
/-- slices.Clone[[]anabranch/api.Stage,anabranch/api.Stage] -/
def BF154 : AFunc := ⟨8, [.tmp 2], (.seq (.region [⟨some 2, .move (.c .sl0), none, []⟩] .seq)
  (.seq (.seq (.region [⟨some 3, .move (.t 0), none, []⟩,
    ⟨some 4, .isNil .s false (.t 3) (.c .sl0), none, []⟩] .seq)
  (.cond (.t 4) (.seq (.region [⟨some 2, .move (.c .sl0), none, []⟩] .seq)
  .ret)
  .skip))
  (.seq (.region [⟨some 5, .buildSlice 95 0 5 [] [], none, []⟩,
    ⟨some 6, .move (.t 0), none, []⟩,
    ⟨some 7, .append 95 5 56 [(.int .i64 0), (.int .i64 0), (.int .i64 0), (.int .i64 0), .sl0] (.t 5) (.t 6), none, []⟩,
    ⟨some 2, .move (.t 7), none, []⟩] .seq)
  .ret)))⟩
/-- anabranch/bin.turns -/
def BF155 : AFunc := ⟨4, [.tmp 2], (.seq (.region [⟨some 1, .box 82 (.t 0), none, []⟩,
    ⟨some 2, .move (.c .fn0), none, []⟩] .seq)
  (.seq (.region [⟨some 3, .mkFunc 212 [] [(.t 1)], none, []⟩,
    ⟨some 2, .move (.t 3), none, []⟩] .seq)
  .ret))⟩
/-- anabranch/oper.kinds$1 -/
def BF156 : AFunc := ⟨3, [.tmp 2], (.seq (.region [⟨some 1, .box 84 (.t 0), none, []⟩,
    ⟨some 2, .move (.c (.bool false)), none, []⟩] .seq)
  (.seq (.region [⟨some 2, .move (.c (.bool true)), none, []⟩] .seq)
  .ret))⟩
/-- anabranch/oper.mapped -/
def BF157 : AFunc := ⟨16, [.tmp 4], (.seq (.region [⟨some 2, .box 84 (.t 0), none, []⟩,
    ⟨some 3, .box 43 (.t 1), none, []⟩,
    ⟨some 4, .move (.c .fn0), none, []⟩] .seq)
  (.seq (.region [⟨some 5, .fieldAddr 2 (.t 3), none, []⟩,
    ⟨some 6, .load1 (.t 5), none, []⟩,
    ⟨some 7, .fieldAddr 1 (.t 2), none, []⟩,
    ⟨some 8, .load1 (.t 7), none, []⟩,
    ⟨some 9, .bin .mul (.t 6) (.t 8), none, []⟩,
    ⟨some 10, .fieldAddr 2 (.t 2), none, []⟩,
    ⟨some 11, .load1 (.t 10), none, []⟩,
    ⟨some 12, .bin .add (.t 9) (.t 11), none, []⟩,
    ⟨some 13, .fieldAddr 2 (.t 3), none, []⟩,
    ⟨none, .store 1 (.t 13) (.t 12), none, []⟩] .seq)
  (.seq (.region [⟨some 14, .loadN 6 (.t 3), none, []⟩,
    ⟨some 15, .callF 213 [(.t 14)], none, []⟩,
    ⟨some 4, .move (.t 15), none, []⟩] .seq)
  .ret)))⟩
/-- anabranch/oper.kinds$2 -/
def BF158 : AFunc := ⟨11, [.tmp 2], (.seq (.region [⟨some 1, .box 84 (.t 0), none, []⟩,
    ⟨some 2, .move (.c (.bool false)), none, []⟩] .seq)
  (.seq (.region [⟨some 3, .fieldAddr 1 (.t 1), none, []⟩,
    ⟨some 4, .load1 (.t 3), none, []⟩,
    ⟨some 5, .callF 159 [(.t 4), (.c (.int .i64 1)), (.c (.int .i64 4294967295))], none, []⟩,
    ⟨some 6, .move (.t 5), none, []⟩,
    ⟨some 7, .fieldAddr 2 (.t 1), some (6, true), []⟩,
    ⟨some 8, .load1 (.t 7), some (6, true), []⟩,
    ⟨some 9, .callF 159 [(.t 8), (.c (.int .i64 0)), (.c (.int .i64 4294967295))], some (6, true), []⟩,
    ⟨some 10, .pick (.t 6) (.t 9) (.c (.bool false)), none, []⟩,
    ⟨some 2, .move (.t 10), none, []⟩] .seq)
  .ret))⟩
/-- anabranch/oper.in -/
def BF159 : AFunc := ⟨15, [.tmp 6], (.seq (.region [⟨some 6, .move (.c (.bool false)), none, []⟩] .seq)
  (.seq (.region [⟨some 7, .move (.t 0), none, []⟩,
    ⟨some 8, .move (.t 1), none, []⟩,
    ⟨some 9, .bin .geq (.t 7) (.t 8), none, []⟩,
    ⟨some 10, .move (.t 9), none, []⟩,
    ⟨some 11, .move (.t 0), some (10, true), []⟩,
    ⟨some 12, .move (.t 2), some (10, true), []⟩,
    ⟨some 13, .bin .leq (.t 11) (.t 12), some (10, true), []⟩,
    ⟨some 14, .pick (.t 10) (.t 13) (.c (.bool false)), none, []⟩,
    ⟨some 6, .move (.t 14), none, []⟩] .seq)
  .ret))⟩
/-- anabranch/oper.keyed -/
def BF160 : AFunc := ⟨20, [.tmp 4], (.seq (.region [⟨some 2, .box 84 (.t 0), none, []⟩,
    ⟨some 3, .box 43 (.t 1), none, []⟩,
    ⟨some 4, .move (.c .fn0), none, []⟩] .seq)
  (.seq (.region [⟨some 5, .fieldAddr 0 (.t 3), none, []⟩,
    ⟨some 6, .load1 (.t 5), none, [13]⟩,
    ⟨some 7, .conv .u64 (.t 6), none, []⟩,
    ⟨some 8, .fieldAddr 1 (.t 2), none, []⟩,
    ⟨some 9, .load1 (.t 8), none, [13]⟩,
    ⟨some 10, .conv .u64 (.t 9), none, []⟩,
    ⟨some 11, .bin .rem (.t 7) (.t 10), none, []⟩,
    ⟨some 12, .conv .u32 (.t 11), none, []⟩,
    ⟨some 13, .fieldAddr 2 (.t 2), none, []⟩,
    ⟨some 14, .load1 (.t 13), none, [13]⟩,
    ⟨some 15, .conv .u32 (.t 14), none, []⟩,
    ⟨some 16, .bin .add (.t 12) (.t 15), none, []⟩,
    ⟨some 17, .fieldAddr 0 (.t 3), none, []⟩,
    ⟨none, .store 1 (.t 17) (.t 16), none, []⟩] .sink)
  (.seq (.region [⟨some 18, .loadN 6 (.t 3), none, []⟩,
    ⟨some 19, .callF 213 [(.t 18)], none, []⟩,
    ⟨some 4, .move (.t 19), none, []⟩] .seq)
  .ret)))⟩
/-- anabranch/oper.kinds$3 -/
def BF161 : AFunc := ⟨13, [.tmp 2], (.seq (.region [⟨some 1, .box 84 (.t 0), none, []⟩,
    ⟨some 2, .move (.c (.bool false)), none, []⟩] .seq)
  (.seq (.region [⟨some 3, .loadN 4 (.t 1), none, []⟩,
    ⟨some 4, .callF 162 [(.t 3)], none, []⟩,
    ⟨some 5, .move (.t 4), none, []⟩,
    ⟨some 6, .fieldAddr 2 (.t 1), some (5, true), []⟩,
    ⟨some 7, .load1 (.t 6), some (5, true), []⟩,
    ⟨some 8, .fieldAddr 1 (.t 1), some (5, true), []⟩,
    ⟨some 9, .load1 (.t 8), some (5, true), []⟩,
    ⟨some 10, .bin .sub (.t 9) (.c (.int .i64 1)), some (5, true), []⟩,
    ⟨some 11, .callF 159 [(.t 7), (.c (.int .i64 0)), (.t 10)], some (5, true), []⟩,
    ⟨some 12, .pick (.t 5) (.t 11) (.c (.bool false)), none, []⟩,
    ⟨some 2, .move (.t 12), none, []⟩] .seq)
  .ret))⟩
/-- anabranch/oper.sized -/
def BF162 : AFunc := ⟨6, [.tmp 2], (.seq (.region [⟨some 1, .box 84 (.t 0), none, []⟩,
    ⟨some 2, .move (.c (.bool false)), none, []⟩] .seq)
  (.seq (.region [⟨some 3, .fieldAddr 1 (.t 1), none, []⟩,
    ⟨some 4, .load1 (.t 3), none, []⟩,
    ⟨some 5, .callF 159 [(.t 4), (.c (.int .i64 1)), (.c (.int .i64 1073741824))], none, []⟩,
    ⟨some 2, .move (.t 5), none, []⟩] .seq)
  .ret))⟩
/-- anabranch/oper.filtered -/
def BF163 : AFunc := ⟨23, [.tmp 4], (.seq (.region [⟨some 2, .box 84 (.t 0), none, []⟩,
    ⟨some 3, .box 43 (.t 1), none, []⟩,
    ⟨some 4, .move (.c .fn0), none, []⟩] .seq)
  (.seq (.region [⟨some 6, .fieldAddr 2 (.t 3), none, []⟩,
    ⟨some 7, .load1 (.t 6), none, []⟩,
    ⟨some 8, .fieldAddr 1 (.t 2), none, []⟩,
    ⟨some 9, .load1 (.t 8), none, []⟩,
    ⟨some 10, .bin .rem (.t 7) (.t 9), none, []⟩,
    ⟨some 5, .move (.t 10), none, []⟩] .seq)
  (.seq (.seq (.region [⟨some 11, .move (.t 5), none, []⟩,
    ⟨some 12, .bin .lss (.t 11) (.c (.int .i64 0)), none, []⟩] .seq)
  (.cond (.t 12) (.region [⟨some 13, .move (.t 5), none, []⟩,
    ⟨some 14, .fieldAddr 1 (.t 2), none, []⟩,
    ⟨some 15, .load1 (.t 14), none, []⟩,
    ⟨some 16, .bin .add (.t 13) (.t 15), none, []⟩,
    ⟨some 5, .move (.t 16), none, []⟩] .seq)
  .skip))
  (.seq (.seq (.region [⟨some 17, .move (.t 5), none, []⟩,
    ⟨some 18, .fieldAddr 2 (.t 2), none, []⟩,
    ⟨some 19, .load1 (.t 18), none, []⟩,
    ⟨some 20, .bin .eql (.t 17) (.t 19), none, []⟩] .seq)
  (.cond (.t 20) (.seq (.region [⟨some 21, .loadN 6 (.t 3), none, []⟩,
    ⟨some 22, .callF 213 [(.t 21)], none, []⟩,
    ⟨some 4, .move (.t 22), none, []⟩] .seq)
  .ret)
  .skip))
  (.seq (.region [⟨some 4, .move (.c (.fn 214 [] [])), none, []⟩] .seq)
  .ret)))))⟩
/-- anabranch/oper.kinds$4 -/
def BF164 : AFunc := ⟨6, [.tmp 2], (.seq (.region [⟨some 1, .box 84 (.t 0), none, []⟩,
    ⟨some 2, .move (.c (.bool false)), none, []⟩] .seq)
  (.seq (.region [⟨some 3, .fieldAddr 1 (.t 1), none, []⟩,
    ⟨some 4, .load1 (.t 3), none, []⟩,
    ⟨some 5, .callF 159 [(.t 4), (.c (.int .i64 1)), (.c (.int .i64 3))], none, []⟩,
    ⟨some 2, .move (.t 5), none, []⟩] .seq)
  .ret))⟩
/-- anabranch/oper.copied -/
def BF165 : AFunc := ⟨6, [.tmp 4], (.seq (.region [⟨some 2, .box 84 (.t 0), none, []⟩,
    ⟨some 3, .box 43 (.t 1), none, []⟩,
    ⟨some 4, .move (.c .fn0), none, []⟩] .seq)
  (.seq (.region [⟨some 5, .mkFunc 215 [] [(.t 2), (.t 3)], none, []⟩,
    ⟨some 4, .move (.t 5), none, []⟩] .seq)
  .ret))⟩
/-- anabranch/oper.plain -/
def BF166 : AFunc := ⟨10, [.tmp 2], (.seq (.region [⟨some 1, .box 84 (.t 0), none, []⟩,
    ⟨some 2, .move (.c (.bool false)), none, []⟩] .seq)
  (.seq (.region [⟨some 3, .loadN 4 (.t 1), none, []⟩,
    ⟨some 4, .callF 162 [(.t 3)], none, []⟩,
    ⟨some 5, .move (.t 4), none, []⟩,
    ⟨some 6, .fieldAddr 2 (.t 1), some (5, true), []⟩,
    ⟨some 7, .load1 (.t 6), some (5, true), []⟩,
    ⟨some 8, .bin .eql (.t 7) (.c (.int .i64 0)), some (5, true), []⟩,
    ⟨some 9, .pick (.t 5) (.t 8) (.c (.bool false)), none, []⟩,
    ⟨some 2, .move (.t 9), none, []⟩] .seq)
  .ret))⟩
/-- anabranch/oper.kinds$5 -/
def BF167 : AFunc := ⟨26, [.tmp 2], (.seq (.region [⟨some 1, .box 84 (.t 0), none, []⟩,
    ⟨some 2, .move (.c (.bool false)), none, []⟩] .seq)
  (.seq (.region [⟨some 3, .loadN 4 (.t 1), none, []⟩,
    ⟨some 4, .callF 162 [(.t 3)], none, []⟩,
    ⟨some 5, .move (.t 4), none, []⟩,
    ⟨some 6, .fieldAddr 2 (.t 1), some (5, true), []⟩,
    ⟨some 7, .load1 (.t 6), some (5, true), []⟩,
    ⟨some 8, .bin .geq (.t 7) (.c (.int .i64 1)), some (5, true), []⟩,
    ⟨some 9, .pick (.t 5) (.t 8) (.c (.bool false)), none, []⟩,
    ⟨some 10, .move (.t 9), none, []⟩,
    ⟨some 11, .fieldAddr 1 (.t 1), some (10, true), []⟩,
    ⟨some 12, .load1 (.t 11), some (10, true), []⟩,
    ⟨some 13, .fieldAddr 2 (.t 1), some (10, true), []⟩,
    ⟨some 14, .load1 (.t 13), some (10, true), []⟩,
    ⟨some 15, .bin .rem (.t 12) (.t 14), some (10, true), []⟩,
    ⟨some 16, .bin .eql (.t 15) (.c (.int .i64 0)), some (10, true), []⟩,
    ⟨some 17, .pick (.t 10) (.t 16) (.c (.bool false)), none, []⟩,
    ⟨some 18, .move (.t 17), none, []⟩,
    ⟨some 19, .fieldAddr 1 (.t 1), some (18, true), []⟩,
    ⟨some 20, .load1 (.t 19), some (18, true), []⟩,
    ⟨some 21, .fieldAddr 2 (.t 1), some (18, true), []⟩,
    ⟨some 22, .load1 (.t 21), some (18, true), []⟩,
    ⟨some 23, .bin .mul (.c (.int .i64 4)) (.t 22), some (18, true), []⟩,
    ⟨some 24, .bin .leq (.t 20) (.t 23), some (18, true), []⟩,
    ⟨some 25, .pick (.t 18) (.t 24) (.c (.bool false)), none, []⟩,
    ⟨some 2, .move (.t 25), none, []⟩] .seq)
  .ret))⟩
/-- (*anabranch/part.Part).met$1 -/
def BF168 : AFunc := ⟨58, [], (.seq (.region [⟨some 9, .load1 (.t 1), none, [5, 9]⟩,
    ⟨some 10, .nilCheck (.t 9), none, []⟩,
    ⟨some 11, .fieldAddr 3 (.t 10), none, []⟩,
    ⟨some 12, .load1 (.t 11), none, [5, 9]⟩,
    ⟨some 13, .loadN 10 (.t 2), none, [5]⟩,
    ⟨some 14, .callF 82 [(.t 13)], none, []⟩,
    ⟨some 15, .lookup [(.i .i64), (.i .u32)] true .sl0 (.t 12) (.t 14) false, none, [9]⟩,
    ⟨some 16, .len .sl (.t 15), none, []⟩,
    ⟨some 17, .move (.c (.int .i64 0)), none, []⟩] .draw)
  (.block 0 (.loop (.seq (.region [⟨some 18, .bin .lss (.t 17) (.t 16), none, []⟩] .seq)
  (.seq (.cond (.t 18) .skip
  (.exit 0))
  (.seq (.block 1 (.seq (.region [⟨some 19, .indexAddrS 10 (.t 15) (.t 17), none, []⟩,
    ⟨some 20, .loadN 10 (.t 19), none, []⟩,
    ⟨some 7, .alloc 28 [(.int .i64 0), (.int .u32 0), (.int .i64 0), (.int .i64 0), (.int .u8 0), (.int .i64 0), (.int .i64 0), (.int .u64 0), (.int .i64 0), (.int .i64 0)], none, []⟩,
    ⟨none, .store 10 (.t 7) (.t 20), none, []⟩] .seq)
  (.seq (.region [⟨some 21, .fieldAddr 2 (.t 7), none, []⟩,
    ⟨some 22, .load1 (.t 21), none, []⟩,
    ⟨some 23, .fieldAddr 2 (.t 2), none, []⟩,
    ⟨some 24, .load1 (.t 23), none, []⟩,
    ⟨some 25, .maxmin true [(.t 22), (.t 24)], none, []⟩,
    ⟨some 26, .fieldAddr 2 (.t 7), none, []⟩,
    ⟨some 27, .load1 (.t 26), none, []⟩,
    ⟨some 28, .fieldAddr 2 (.t 2), none, []⟩,
    ⟨some 29, .load1 (.t 28), none, []⟩,
    ⟨some 30, .maxmin false [(.t 27), (.t 29)], none, []⟩,
    ⟨some 31, .bin .sub (.t 25) (.t 30), none, []⟩,
    ⟨some 32, .fieldAddr 1 (.t 3), none, []⟩,
    ⟨some 33, .load1 (.t 32), none, []⟩,
    ⟨some 34, .bin .leq (.t 31) (.t 33), none, []⟩,
    ⟨some 8, .move (.t 34), none, []⟩] .seq)
  (.seq (.region [⟨some 35, .move (.t 8), none, []⟩,
    ⟨some 36, .move (.t 35), none, []⟩,
    ⟨some 37, .fieldAddr 2 (.t 7), some (36, true), []⟩,
    ⟨some 38, .load1 (.t 37), some (36, true), []⟩,
    ⟨some 39, .load1 (.t 4), some (36, true), []⟩,
    ⟨some 40, .bin .geq (.t 38) (.t 39), some (36, true), []⟩,
    ⟨some 41, .pick (.t 36) (.t 40) (.c (.bool false)), none, []⟩,
    ⟨some 42, .move (.t 41), none, []⟩,
    ⟨some 43, .fieldAddr 4 (.t 7), some (42, true), []⟩,
    ⟨some 44, .load1 (.t 43), some (42, true), []⟩,
    ⟨some 45, .fieldAddr 4 (.t 2), some (42, true), []⟩,
    ⟨some 46, .load1 (.t 45), some (42, true), []⟩,
    ⟨some 47, .bin .xor (.t 44) (.t 46), some (42, true), []⟩,
    ⟨some 48, .bin .and (.t 47) (.c (.int .u8 1)), some (42, true), []⟩,
    ⟨some 49, .bin .eql (.t 48) (.c (.int .u8 1)), some (42, true), []⟩,
    ⟨some 50, .pick (.t 42) (.t 49) (.c (.bool false)), none, []⟩,
    ⟨some 51, .move (.t 50), none, []⟩,
    ⟨some 52, .move (.t 0), some (51, true), []⟩,
    ⟨some 53, .loadN 10 (.t 7), some (51, true), []⟩,
    ⟨some 54, .callV (.t 52) [(.t 53)], some (51, true), []⟩,
    ⟨some 55, .un .not (.t 54), some (51, true), []⟩,
    ⟨some 56, .pick (.t 51) (.t 55) (.c (.bool false)), none, []⟩] .seq)
  (.cond (.t 56) .ret
  .skip)))))
  (.region [⟨some 57, .bin .add (.t 17) (.c (.int .i64 1)), none, []⟩,
    ⟨some 17, .move (.t 57), none, []⟩] .seq)))))))⟩
/-- anabranch/acc.bare -/
def BF169 : AFunc := ⟨6, [.cellN 2 5], (.seq (.region [⟨some 1, .box 26 (.t 0), none, []⟩,
    ⟨some 2, .alloc 26 [(.int .i64 0), (.int .i64 0), (.int .u64 0), (.int .i64 0), (.int .i64 0)], none, []⟩] .seq)
  (.seq (.region [⟨some 3, .fieldAddr 0 (.t 1), none, []⟩,
    ⟨some 4, .load1 (.t 3), none, []⟩,
    ⟨some 5, .build [(.int .i64 0), (.int .i64 0), (.int .u64 0), (.int .i64 0), (.int .i64 0)] [(0, 1, (.t 4))], none, []⟩,
    ⟨none, .store 5 (.t 2) (.t 5), none, []⟩] .seq)
  .ret))⟩
/-- slices.insertionSortCmpFunc[anabranch/api.Entry] -/
def BF171 : AFunc := ⟨53, [], (.seq (.region [⟨some 10, .move (.t 1), none, []⟩,
    ⟨some 11, .bin .add (.t 10) (.c (.int .i64 1)), none, []⟩,
    ⟨some 8, .move (.t 11), none, []⟩] .seq)
  (.block 0 (.loop (.seq (.seq (.region [⟨some 12, .move (.t 8), none, []⟩,
    ⟨some 13, .move (.t 2), none, []⟩,
    ⟨some 14, .bin .lss (.t 12) (.t 13), none, []⟩] .seq)
  (.cond (.t 14) .skip
  (.exit 0)))
  (.seq (.block 1 (.seq (.region [⟨some 17, .move (.t 8), none, []⟩,
    ⟨some 9, .move (.t 17), none, []⟩] .seq)
  (.block 2 (.loop (.seq (.seq (.region [⟨some 18, .move (.t 9), none, []⟩,
    ⟨some 19, .move (.t 1), none, []⟩,
    ⟨some 20, .bin .gtr (.t 18) (.t 19), none, []⟩,
    ⟨some 21, .move (.t 20), none, []⟩,
    ⟨some 22, .move (.t 3), some (21, true), []⟩,
    ⟨some 23, .move (.t 0), some (21, true), []⟩,
    ⟨some 24, .move (.t 9), some (21, true), []⟩,
    ⟨some 25, .indexAddrS 10 (.t 23) (.t 24), some (21, true), []⟩,
    ⟨some 26, .loadN 10 (.t 25), some (21, true), [14]⟩,
    ⟨some 27, .move (.t 0), some (21, true), []⟩,
    ⟨some 28, .move (.t 9), some (21, true), []⟩,
    ⟨some 29, .bin .sub (.t 28) (.c (.int .i64 1)), some (21, true), []⟩,
    ⟨some 30, .indexAddrS 10 (.t 27) (.t 29), some (21, true), []⟩,
    ⟨some 31, .loadN 10 (.t 30), some (21, true), [14]⟩,
    ⟨some 32, .callV (.t 22) [(.t 26), (.t 31)], some (21, true), []⟩,
    ⟨some 33, .bin .lss (.t 32) (.c (.int .i64 0)), some (21, true), []⟩,
    ⟨some 34, .pick (.t 21) (.t 33) (.c (.bool false)), none, []⟩] .sink)
  (.cond (.t 34) .skip
  (.exit 2)))
  (.seq (.block 3 (.region [⟨some 37, .move (.t 0), none, []⟩,
    ⟨some 38, .move (.t 9), none, []⟩,
    ⟨some 39, .move (.t 0), none, []⟩,
    ⟨some 40, .move (.t 9), none, []⟩,
    ⟨some 41, .bin .sub (.t 40) (.c (.int .i64 1)), none, []⟩,
    ⟨some 42, .move (.t 0), none, []⟩,
    ⟨some 43, .move (.t 9), none, []⟩,
    ⟨some 44, .bin .sub (.t 43) (.c (.int .i64 1)), none, []⟩,
    ⟨some 45, .indexAddrS 10 (.t 42) (.t 44), none, []⟩,
    ⟨some 46, .loadN 10 (.t 45), none, [15]⟩,
    ⟨some 47, .move (.t 0), none, []⟩,
    ⟨some 48, .move (.t 9), none, []⟩,
    ⟨some 49, .indexAddrS 10 (.t 47) (.t 48), none, []⟩,
    ⟨some 50, .loadN 10 (.t 49), none, [15]⟩,
    ⟨some 51, .indexAddrS 10 (.t 37) (.t 38), none, []⟩,
    ⟨none, .store 10 (.t 51) (.t 46), none, []⟩,
    ⟨some 52, .indexAddrS 10 (.t 39) (.t 41), none, []⟩,
    ⟨none, .store 10 (.t 52) (.t 50), none, []⟩] .sink))
  (.region [⟨some 35, .move (.t 9), none, []⟩,
    ⟨some 36, .bin .sub (.t 35) (.c (.int .i64 1)), none, []⟩,
    ⟨some 9, .move (.t 36), none, []⟩] .seq)))))))
  (.region [⟨some 15, .move (.t 8), none, []⟩,
    ⟨some 16, .bin .add (.t 15) (.c (.int .i64 1)), none, []⟩,
    ⟨some 8, .move (.t 16), none, []⟩] .seq))))))⟩
/-- slices.symMergeCmpFunc[anabranch/api.Entry] -/
def BF172 : AFunc := ⟨220, [], (.seq (.seq (.region [⟨some 25, .move (.t 2), none, []⟩,
    ⟨some 26, .move (.t 1), none, []⟩,
    ⟨some 27, .bin .sub (.t 25) (.t 26), none, []⟩,
    ⟨some 28, .bin .eql (.t 27) (.c (.int .i64 1)), none, []⟩] .seq)
  (.cond (.t 28) (.seq (.region [⟨some 29, .move (.t 2), none, []⟩,
    ⟨some 10, .move (.t 29), none, []⟩] .seq)
  (.seq (.region [⟨some 30, .move (.t 3), none, []⟩,
    ⟨some 11, .move (.t 30), none, []⟩] .seq)
  (.seq (.block 0 (.loop (.seq (.seq (.region [⟨some 31, .move (.t 10), none, []⟩,
    ⟨some 32, .move (.t 11), none, []⟩,
    ⟨some 33, .bin .lss (.t 31) (.t 32), none, []⟩] .seq)
  (.cond (.t 33) .skip
  (.exit 0)))
  (.block 1 (.seq (.region [⟨some 34, .move (.t 10), none, []⟩,
    ⟨some 35, .move (.t 11), none, []⟩,
    ⟨some 36, .bin .add (.t 34) (.t 35), none, []⟩,
    ⟨some 37, .conv .u64 (.t 36), none, []⟩,
    ⟨some 38, .bin .shr (.t 37) (.c (.int .u64 1)), none, []⟩,
    ⟨some 39, .conv .i64 (.t 38), none, []⟩,
    ⟨some 12, .move (.t 39), none, []⟩] .seq)
  (.seq (.region [⟨some 40, .move (.t 4), none, []⟩,
    ⟨some 41, .move (.t 0), none, []⟩,
    ⟨some 42, .move (.t 12), none, []⟩,
    ⟨some 43, .indexAddrS 10 (.t 41) (.t 42), none, []⟩,
    ⟨some 44, .loadN 10 (.t 43), none, [9]⟩,
    ⟨some 45, .move (.t 0), none, []⟩,
    ⟨some 46, .move (.t 1), none, []⟩,
    ⟨some 47, .indexAddrS 10 (.t 45) (.t 46), none, []⟩,
    ⟨some 48, .loadN 10 (.t 47), none, [9]⟩,
    ⟨some 49, .callV (.t 40) [(.t 44), (.t 48)], none, []⟩,
    ⟨some 50, .bin .lss (.t 49) (.c (.int .i64 0)), none, []⟩] .sink)
  (.cond (.t 50) (.region [⟨some 51, .move (.t 12), none, []⟩,
    ⟨some 52, .bin .add (.t 51) (.c (.int .i64 1)), none, []⟩,
    ⟨some 10, .move (.t 52), none, []⟩] .seq)
  (.region [⟨some 53, .move (.t 12), none, []⟩,
    ⟨some 11, .move (.t 53), none, []⟩] .seq))))))))
  (.seq (.seq (.region [⟨some 54, .move (.t 1), none, []⟩,
    ⟨some 13, .move (.t 54), none, []⟩] .seq)
  (.block 2 (.loop (.seq (.seq (.region [⟨some 55, .move (.t 13), none, []⟩,
    ⟨some 56, .move (.t 10), none, []⟩,
    ⟨some 57, .bin .sub (.t 56) (.c (.int .i64 1)), none, []⟩,
    ⟨some 58, .bin .lss (.t 55) (.t 57), none, []⟩] .seq)
  (.cond (.t 58) .skip
  (.exit 2)))
  (.seq (.block 3 (.region [⟨some 61, .move (.t 0), none, []⟩,
    ⟨some 62, .move (.t 13), none, []⟩,
    ⟨some 63, .move (.t 0), none, []⟩,
    ⟨some 64, .move (.t 13), none, []⟩,
    ⟨some 65, .bin .add (.t 64) (.c (.int .i64 1)), none, []⟩,
    ⟨some 66, .move (.t 0), none, []⟩,
    ⟨some 67, .move (.t 13), none, []⟩,
    ⟨some 68, .bin .add (.t 67) (.c (.int .i64 1)), none, []⟩,
    ⟨some 69, .indexAddrS 10 (.t 66) (.t 68), none, []⟩,
    ⟨some 70, .loadN 10 (.t 69), none, [15]⟩,
    ⟨some 71, .move (.t 0), none, []⟩,
    ⟨some 72, .move (.t 13), none, []⟩,
    ⟨some 73, .indexAddrS 10 (.t 71) (.t 72), none, []⟩,
    ⟨some 74, .loadN 10 (.t 73), none, [15]⟩,
    ⟨some 75, .indexAddrS 10 (.t 61) (.t 62), none, []⟩,
    ⟨none, .store 10 (.t 75) (.t 70), none, []⟩,
    ⟨some 76, .indexAddrS 10 (.t 63) (.t 65), none, []⟩,
    ⟨none, .store 10 (.t 76) (.t 74), none, []⟩] .sink))
  (.region [⟨some 59, .move (.t 13), none, []⟩,
    ⟨some 60, .bin .add (.t 59) (.c (.int .i64 1)), none, []⟩,
    ⟨some 13, .move (.t 60), none, []⟩] .seq))))))
  .ret))))
  .skip))
  (.seq (.seq (.region [⟨some 77, .move (.t 3), none, []⟩,
    ⟨some 78, .move (.t 2), none, []⟩,
    ⟨some 79, .bin .sub (.t 77) (.t 78), none, []⟩,
    ⟨some 80, .bin .eql (.t 79) (.c (.int .i64 1)), none, []⟩] .seq)
  (.cond (.t 80) (.seq (.region [⟨some 81, .move (.t 1), none, []⟩,
    ⟨some 14, .move (.t 81), none, []⟩] .seq)
  (.seq (.region [⟨some 82, .move (.t 2), none, []⟩,
    ⟨some 15, .move (.t 82), none, []⟩] .seq)
  (.seq (.block 4 (.loop (.seq (.seq (.region [⟨some 83, .move (.t 14), none, []⟩,
    ⟨some 84, .move (.t 15), none, []⟩,
    ⟨some 85, .bin .lss (.t 83) (.t 84), none, []⟩] .seq)
  (.cond (.t 85) .skip
  (.exit 4)))
  (.block 5 (.seq (.region [⟨some 86, .move (.t 14), none, []⟩,
    ⟨some 87, .move (.t 15), none, []⟩,
    ⟨some 88, .bin .add (.t 86) (.t 87), none, []⟩,
    ⟨some 89, .conv .u64 (.t 88), none, []⟩,
    ⟨some 90, .bin .shr (.t 89) (.c (.int .u64 1)), none, []⟩,
    ⟨some 91, .conv .i64 (.t 90), none, []⟩,
    ⟨some 16, .move (.t 91), none, []⟩] .seq)
  (.seq (.region [⟨some 92, .move (.t 4), none, []⟩,
    ⟨some 93, .move (.t 0), none, []⟩,
    ⟨some 94, .move (.t 2), none, []⟩,
    ⟨some 95, .indexAddrS 10 (.t 93) (.t 94), none, []⟩,
    ⟨some 96, .loadN 10 (.t 95), none, [9]⟩,
    ⟨some 97, .move (.t 0), none, []⟩,
    ⟨some 98, .move (.t 16), none, []⟩,
    ⟨some 99, .indexAddrS 10 (.t 97) (.t 98), none, []⟩,
    ⟨some 100, .loadN 10 (.t 99), none, [9]⟩,
    ⟨some 101, .callV (.t 92) [(.t 96), (.t 100)], none, []⟩,
    ⟨some 102, .bin .lss (.t 101) (.c (.int .i64 0)), none, []⟩,
    ⟨some 103, .un .not (.t 102), none, []⟩] .sink)
  (.cond (.t 103) (.region [⟨some 104, .move (.t 16), none, []⟩,
    ⟨some 105, .bin .add (.t 104) (.c (.int .i64 1)), none, []⟩,
    ⟨some 14, .move (.t 105), none, []⟩] .seq)
  (.region [⟨some 106, .move (.t 16), none, []⟩,
    ⟨some 15, .move (.t 106), none, []⟩] .seq))))))))
  (.seq (.seq (.region [⟨some 107, .move (.t 2), none, []⟩,
    ⟨some 17, .move (.t 107), none, []⟩] .seq)
  (.block 6 (.loop (.seq (.seq (.region [⟨some 108, .move (.t 17), none, []⟩,
    ⟨some 109, .move (.t 14), none, []⟩,
    ⟨some 110, .bin .gtr (.t 108) (.t 109), none, []⟩] .seq)
  (.cond (.t 110) .skip
  (.exit 6)))
  (.seq (.block 7 (.region [⟨some 113, .move (.t 0), none, []⟩,
    ⟨some 114, .move (.t 17), none, []⟩,
    ⟨some 115, .move (.t 0), none, []⟩,
    ⟨some 116, .move (.t 17), none, []⟩,
    ⟨some 117, .bin .sub (.t 116) (.c (.int .i64 1)), none, []⟩,
    ⟨some 118, .move (.t 0), none, []⟩,
    ⟨some 119, .move (.t 17), none, []⟩,
    ⟨some 120, .bin .sub (.t 119) (.c (.int .i64 1)), none, []⟩,
    ⟨some 121, .indexAddrS 10 (.t 118) (.t 120), none, []⟩,
    ⟨some 122, .loadN 10 (.t 121), none, [15]⟩,
    ⟨some 123, .move (.t 0), none, []⟩,
    ⟨some 124, .move (.t 17), none, []⟩,
    ⟨some 125, .indexAddrS 10 (.t 123) (.t 124), none, []⟩,
    ⟨some 126, .loadN 10 (.t 125), none, [15]⟩,
    ⟨some 127, .indexAddrS 10 (.t 113) (.t 114), none, []⟩,
    ⟨none, .store 10 (.t 127) (.t 122), none, []⟩,
    ⟨some 128, .indexAddrS 10 (.t 115) (.t 117), none, []⟩,
    ⟨none, .store 10 (.t 128) (.t 126), none, []⟩] .sink))
  (.region [⟨some 111, .move (.t 17), none, []⟩,
    ⟨some 112, .bin .sub (.t 111) (.c (.int .i64 1)), none, []⟩,
    ⟨some 17, .move (.t 112), none, []⟩] .seq))))))
  .ret))))
  .skip))
  (.seq (.region [⟨some 129, .move (.t 1), none, []⟩,
    ⟨some 130, .move (.t 3), none, []⟩,
    ⟨some 131, .bin .add (.t 129) (.t 130), none, []⟩,
    ⟨some 132, .conv .u64 (.t 131), none, []⟩,
    ⟨some 133, .bin .shr (.t 132) (.c (.int .u64 1)), none, []⟩,
    ⟨some 134, .conv .i64 (.t 133), none, []⟩,
    ⟨some 18, .move (.t 134), none, []⟩] .seq)
  (.seq (.region [⟨some 135, .move (.t 18), none, []⟩,
    ⟨some 136, .move (.t 2), none, []⟩,
    ⟨some 137, .bin .add (.t 135) (.t 136), none, []⟩,
    ⟨some 19, .move (.t 137), none, []⟩] .seq)
  (.seq (.region [⟨some 20, .move (.c (.int .i64 0)), none, []⟩,
    ⟨some 21, .move (.c (.int .i64 0)), none, []⟩] .seq)
  (.seq (.seq (.region [⟨some 138, .move (.t 2), none, []⟩,
    ⟨some 139, .move (.t 18), none, []⟩,
    ⟨some 140, .bin .gtr (.t 138) (.t 139), none, []⟩] .seq)
  (.cond (.t 140) (.seq (.region [⟨some 141, .move (.t 19), none, []⟩,
    ⟨some 142, .move (.t 3), none, []⟩,
    ⟨some 143, .bin .sub (.t 141) (.t 142), none, []⟩,
    ⟨some 20, .move (.t 143), none, []⟩] .seq)
  (.region [⟨some 144, .move (.t 18), none, []⟩,
    ⟨some 21, .move (.t 144), none, []⟩] .seq))
  (.seq (.region [⟨some 145, .move (.t 1), none, []⟩,
    ⟨some 20, .move (.t 145), none, []⟩] .seq)
  (.region [⟨some 146, .move (.t 2), none, []⟩,
    ⟨some 21, .move (.t 146), none, []⟩] .seq))))
  (.seq (.region [⟨some 147, .move (.t 19), none, []⟩,
    ⟨some 148, .bin .sub (.t 147) (.c (.int .i64 1)), none, []⟩,
    ⟨some 22, .move (.t 148), none, []⟩] .seq)
  (.seq (.block 8 (.loop (.seq (.seq (.region [⟨some 149, .move (.t 20), none, []⟩,
    ⟨some 150, .move (.t 21), none, []⟩,
    ⟨some 151, .bin .lss (.t 149) (.t 150), none, []⟩] .seq)
  (.cond (.t 151) .skip
  (.exit 8)))
  (.block 9 (.seq (.region [⟨some 152, .move (.t 20), none, []⟩,
    ⟨some 153, .move (.t 21), none, []⟩,
    ⟨some 154, .bin .add (.t 152) (.t 153), none, []⟩,
    ⟨some 155, .conv .u64 (.t 154), none, []⟩,
    ⟨some 156, .bin .shr (.t 155) (.c (.int .u64 1)), none, []⟩,
    ⟨some 157, .conv .i64 (.t 156), none, []⟩,
    ⟨some 23, .move (.t 157), none, []⟩] .seq)
  (.seq (.region [⟨some 158, .move (.t 4), none, []⟩,
    ⟨some 159, .move (.t 0), none, []⟩,
    ⟨some 160, .move (.t 22), none, []⟩,
    ⟨some 161, .move (.t 23), none, []⟩,
    ⟨some 162, .bin .sub (.t 160) (.t 161), none, []⟩,
    ⟨some 163, .indexAddrS 10 (.t 159) (.t 162), none, []⟩,
    ⟨some 164, .loadN 10 (.t 163), none, [11]⟩,
    ⟨some 165, .move (.t 0), none, []⟩,
    ⟨some 166, .move (.t 23), none, []⟩,
    ⟨some 167, .indexAddrS 10 (.t 165) (.t 166), none, []⟩,
    ⟨some 168, .loadN 10 (.t 167), none, [11]⟩,
    ⟨some 169, .callV (.t 158) [(.t 164), (.t 168)], none, []⟩,
    ⟨some 170, .bin .lss (.t 169) (.c (.int .i64 0)), none, []⟩,
    ⟨some 171, .un .not (.t 170), none, []⟩] .sink)
  (.cond (.t 171) (.region [⟨some 172, .move (.t 23), none, []⟩,
    ⟨some 173, .bin .add (.t 172) (.c (.int .i64 1)), none, []⟩,
    ⟨some 20, .move (.t 173), none, []⟩] .seq)
  (.region [⟨some 174, .move (.t 23), none, []⟩,
    ⟨some 21, .move (.t 174), none, []⟩] .seq))))))))
  (.seq (.region [⟨some 175, .move (.t 19), none, []⟩,
    ⟨some 176, .move (.t 20), none, []⟩,
    ⟨some 177, .bin .sub (.t 175) (.t 176), none, []⟩,
    ⟨some 24, .move (.t 177), none, []⟩] .seq)
  (.seq (.seq (.region [⟨some 178, .move (.t 20), none, []⟩,
    ⟨some 179, .move (.t 2), none, []⟩,
    ⟨some 180, .bin .lss (.t 178) (.t 179), none, []⟩,
    ⟨some 181, .move (.t 180), none, []⟩,
    ⟨some 182, .move (.t 2), some (181, true), []⟩,
    ⟨some 183, .move (.t 24), some (181, true), []⟩,
    ⟨some 184, .bin .lss (.t 182) (.t 183), some (181, true), []⟩,
    ⟨some 185, .pick (.t 181) (.t 184) (.c (.bool false)), none, []⟩] .seq)
  (.cond (.t 185) (.region [⟨some 186, .move (.t 0), none, []⟩,
    ⟨some 187, .move (.t 20), none, []⟩,
    ⟨some 188, .move (.t 2), none, []⟩,
    ⟨some 189, .move (.t 24), none, []⟩,
    ⟨some 190, .move (.t 4), none, []⟩,
    ⟨some 191, .callF 216 [(.t 186), (.t 187), (.t 188), (.t 189), (.t 190)], none, []⟩] .seq)
  .skip))
  (.seq (.seq (.region [⟨some 192, .move (.t 1), none, []⟩,
    ⟨some 193, .move (.t 20), none, []⟩,
    ⟨some 194, .bin .lss (.t 192) (.t 193), none, []⟩,
    ⟨some 195, .move (.t 194), none, []⟩,
    ⟨some 196, .move (.t 20), some (195, true), []⟩,
    ⟨some 197, .move (.t 18), some (195, true), []⟩,
    ⟨some 198, .bin .lss (.t 196) (.t 197), some (195, true), []⟩,
    ⟨some 199, .pick (.t 195) (.t 198) (.c (.bool false)), none, []⟩] .seq)
  (.cond (.t 199) (.region [⟨some 200, .move (.t 0), none, []⟩,
    ⟨some 201, .move (.t 1), none, []⟩,
    ⟨some 202, .move (.t 20), none, []⟩,
    ⟨some 203, .move (.t 18), none, []⟩,
    ⟨some 204, .move (.t 4), none, []⟩,
    ⟨some 205, .callF 172 [(.t 200), (.t 201), (.t 202), (.t 203), (.t 204)], none, []⟩] .seq)
  .skip))
  (.seq (.region [⟨some 206, .move (.t 18), none, []⟩,
    ⟨some 207, .move (.t 24), none, []⟩,
    ⟨some 208, .bin .lss (.t 206) (.t 207), none, []⟩,
    ⟨some 209, .move (.t 208), none, []⟩,
    ⟨some 210, .move (.t 24), some (209, true), []⟩,
    ⟨some 211, .move (.t 3), some (209, true), []⟩,
    ⟨some 212, .bin .lss (.t 210) (.t 211), some (209, true), []⟩,
    ⟨some 213, .pick (.t 209) (.t 212) (.c (.bool false)), none, []⟩] .seq)
  (.cond (.t 213) (.region [⟨some 214, .move (.t 0), none, []⟩,
    ⟨some 215, .move (.t 18), none, []⟩,
    ⟨some 216, .move (.t 24), none, []⟩,
    ⟨some 217, .move (.t 3), none, []⟩,
    ⟨some 218, .move (.t 4), none, []⟩,
    ⟨some 219, .callF 172 [(.t 214), (.t 215), (.t 216), (.t 217), (.t 218)], none, []⟩] .seq)
  .skip)))))))))))))⟩
/-- anabranch/table.told -/
def BF173 : AFunc := ⟨15, [], (.seq (.region [⟨some 5, .recover, none, []⟩] .seq)
  (.block 0 (.seq (.region [⟨some 7, .isNil .i false (.t 5) (.c .if0), none, []⟩] .seq)
  (.cond (.t 7) (.region [⟨some 2, .move (.t 5), none, []⟩] .seq)
  (.seq (.region [⟨some 8, .assert 284 (.agg [(.int .i64 0)]) true (.t 5), none, []⟩,
    ⟨some 9, .extract (.t 8) 1, none, []⟩,
    ⟨some 10, .extract (.t 8) 0, none, []⟩] .seq)
  (.cond (.t 9) (.seq (.region [⟨some 3, .alloc 284 [(.int .i64 0)], none, []⟩,
    ⟨none, .store 1 (.t 3) (.t 10), none, []⟩] .seq)
  (.region [⟨some 11, .move (.t 0), none, []⟩,
    ⟨some 12, .fieldAddr 0 (.t 3), none, []⟩,
    ⟨some 13, .load1 (.t 12), none, []⟩,
    ⟨some 14, .nilCheck (.t 11), none, []⟩,
    ⟨none, .store 1 (.t 14) (.t 13), none, []⟩] .seq))
  (.seq (.region [⟨some 4, .move (.t 5), none, []⟩] .seq)
  (.region [⟨some 6, .move (.t 4), none, []⟩,
    ⟨none, .panic (.t 6), none, []⟩] .seq))))))))⟩
/-- anabranch/table.must -/
def BF174 : AFunc := ⟨9, [], (.seq (.region [⟨some 4, .move (.t 0), none, []⟩,
    ⟨some 5, .un .not (.t 4), none, []⟩] .seq)
  (.cond (.t 5) (.region [⟨some 6, .move (.t 1), none, []⟩,
    ⟨some 7, .build [(.int .i64 0)] [(0, 1, (.t 6))], none, []⟩,
    ⟨some 8, .mkIface 284 (.t 7), none, []⟩,
    ⟨none, .panic (.t 8), none, []⟩] .seq)
  .skip))⟩
/-- (*anabranch/table.Table).last -/
def BF175 : AFunc := ⟨22, [.tmp 2], (.seq (.region [⟨some 2, .move (.c (.int .i64 0)), none, []⟩] .seq)
  (.seq (.seq (.region [⟨some 3, .move (.t 0), none, []⟩,
    ⟨some 4, .nilCheck (.t 3), none, []⟩,
    ⟨some 5, .fieldAddr 9 (.t 4), none, []⟩,
    ⟨some 6, .load1 (.t 5), none, []⟩,
    ⟨some 7, .len .sl (.t 6), none, []⟩,
    ⟨some 8, .bin .eql (.t 7) (.c (.int .i64 0)), none, []⟩] .seq)
  (.cond (.t 8) (.seq (.region [⟨some 2, .move (.c (.int .i64 0)), none, []⟩] .seq)
  .ret)
  .skip))
  (.seq (.region [⟨some 9, .move (.t 0), none, []⟩,
    ⟨some 10, .nilCheck (.t 9), none, []⟩,
    ⟨some 11, .fieldAddr 9 (.t 10), none, []⟩,
    ⟨some 12, .load1 (.t 11), none, [14]⟩,
    ⟨some 13, .move (.t 0), none, []⟩,
    ⟨some 14, .nilCheck (.t 13), none, []⟩,
    ⟨some 15, .fieldAddr 9 (.t 14), none, []⟩,
    ⟨some 16, .load1 (.t 15), none, [14]⟩,
    ⟨some 17, .len .sl (.t 16), none, []⟩,
    ⟨some 18, .bin .sub (.t 17) (.c (.int .i64 1)), none, []⟩,
    ⟨some 19, .indexAddrS 10 (.t 12) (.t 18), none, []⟩,
    ⟨some 20, .fieldAddr 1 (.t 19), none, []⟩,
    ⟨some 21, .load1 (.t 20), none, [14]⟩,
    ⟨some 2, .move (.t 21), none, []⟩] .sink)
  .ret)))⟩
/-- (*anabranch/table.Table).move -/
def BF176 : AFunc := ⟨33, [], (.seq (.region [⟨some 3, .box 86 (.t 1), none, []⟩] .seq)
  (.seq (.region [⟨some 6, .fieldAddr 2 (.t 3), none, []⟩,
    ⟨some 7, .load1 (.t 6), none, []⟩,
    ⟨some 8, .callF 217 [(.t 7)], none, []⟩,
    ⟨some 9, .callF 174 [(.t 8), (.c (.int .i64 15))], none, []⟩] .seq)
  (.seq (.region [⟨some 10, .move (.t 0), none, []⟩,
    ⟨some 11, .nilCheck (.t 10), none, []⟩,
    ⟨some 12, .fieldAddr 18 (.t 11), none, []⟩,
    ⟨some 13, .load1 (.t 12), none, [6]⟩,
    ⟨some 14, .fieldAddr 3 (.t 3), none, []⟩,
    ⟨some 15, .load1 (.t 14), none, [6]⟩,
    ⟨some 16, .callF 218 [(.t 13), (.t 15)], none, []⟩,
    ⟨some 17, .callF 174 [(.t 16), (.c (.int .i64 16))], none, []⟩] .sink)
  (.seq (.region [⟨some 18, .fieldAddr 2 (.t 3), none, []⟩,
    ⟨some 19, .load1 (.t 18), none, []⟩,
    ⟨some 20, .len .sl (.t 19), none, []⟩,
    ⟨some 21, .move (.c (.int .i64 0)), none, []⟩] .seq)
  (.block 0 (.loop (.seq (.region [⟨some 22, .bin .lss (.t 21) (.t 20), none, []⟩] .seq)
  (.seq (.cond (.t 22) .skip
  (.exit 0))
  (.seq (.block 1 (.seq (.region [⟨some 23, .indexAddrS 1 (.t 19) (.t 21), none, []⟩,
    ⟨some 24, .load1 (.t 23), none, []⟩,
    ⟨some 5, .move (.t 24), none, []⟩] .seq)
  (.region [⟨some 25, .move (.t 0), none, []⟩,
    ⟨some 26, .move (.t 5), none, []⟩,
    ⟨some 27, .callF 110 [(.t 25), (.t 26)], none, []⟩,
    ⟨some 28, .fieldAddr 3 (.t 3), none, []⟩,
    ⟨some 29, .load1 (.t 28), none, [2, 6]⟩,
    ⟨some 30, .bin .neq (.t 27) (.t 29), none, []⟩,
    ⟨some 31, .callF 174 [(.t 30), (.c (.int .i64 17))], none, []⟩] .sink)))
  (.region [⟨some 32, .bin .add (.t 21) (.c (.int .i64 1)), none, []⟩,
    ⟨some 21, .move (.t 32), none, []⟩] .seq))))))))))⟩
/-- (*anabranch/table.Table).join -/
def BF177 : AFunc := ⟨23, [], (.seq (.region [⟨some 3, .box 86 (.t 1), none, []⟩] .seq)
  (.seq (.region [⟨some 4, .fieldAddr 3 (.t 3), none, []⟩,
    ⟨some 5, .load1 (.t 4), none, [8]⟩,
    ⟨some 6, .move (.t 0), none, []⟩,
    ⟨some 7, .nilCheck (.t 6), none, []⟩,
    ⟨some 8, .fieldAddr 0 (.t 7), none, []⟩,
    ⟨some 9, .fieldAddr 4 (.t 8), none, []⟩,
    ⟨some 10, .fieldAddr 0 (.t 9), none, []⟩,
    ⟨some 11, .load1 (.t 10), none, [8]⟩,
    ⟨some 12, .callF 86 [(.t 5), (.c (.int .i64 1)), (.t 11)], none, []⟩,
    ⟨some 13, .callF 174 [(.t 12), (.c (.int .i64 16))], none, []⟩] .sink)
  (.region [⟨some 14, .move (.t 0), none, []⟩,
    ⟨some 15, .nilCheck (.t 14), none, []⟩,
    ⟨some 16, .fieldAddr 18 (.t 15), none, []⟩,
    ⟨some 17, .load1 (.t 16), none, [6]⟩,
    ⟨some 18, .fieldAddr 3 (.t 3), none, []⟩,
    ⟨some 19, .load1 (.t 18), none, [6]⟩,
    ⟨some 20, .callF 218 [(.t 17), (.t 19)], none, []⟩,
    ⟨some 21, .un .not (.t 20), none, []⟩,
    ⟨some 22, .callF 174 [(.t 21), (.c (.int .i64 11))], none, []⟩] .sink)))⟩
/-- (*anabranch/table.Table).leave -/
def BF178 : AFunc := ⟨19, [], (.seq (.region [⟨some 3, .box 86 (.t 1), none, []⟩] .seq)
  (.seq (.region [⟨some 4, .move (.t 0), none, []⟩,
    ⟨some 5, .nilCheck (.t 4), none, []⟩,
    ⟨some 6, .fieldAddr 18 (.t 5), none, []⟩,
    ⟨some 7, .load1 (.t 6), none, [6]⟩,
    ⟨some 8, .fieldAddr 3 (.t 3), none, []⟩,
    ⟨some 9, .load1 (.t 8), none, [6]⟩,
    ⟨some 10, .callF 218 [(.t 7), (.t 9)], none, []⟩,
    ⟨some 11, .callF 174 [(.t 10), (.c (.int .i64 16))], none, []⟩] .sink)
  (.region [⟨some 12, .move (.t 0), none, []⟩,
    ⟨some 13, .nilCheck (.t 12), none, []⟩,
    ⟨some 14, .fieldAddr 18 (.t 13), none, []⟩,
    ⟨some 15, .load1 (.t 14), none, []⟩,
    ⟨some 16, .len .sl (.t 15), none, []⟩,
    ⟨some 17, .bin .gtr (.t 16) (.c (.int .i64 1)), none, []⟩,
    ⟨some 18, .callF 174 [(.t 17), (.c (.int .i64 10))], none, []⟩] .seq)))⟩
/-- (*anabranch/table.Table).replace -/
def BF179 : AFunc := ⟨38, [], (.seq (.region [⟨some 3, .box 86 (.t 1), none, []⟩] .seq)
  (.seq (.region [⟨some 4, .fieldAddr 4 (.t 3), none, []⟩,
    ⟨some 5, .load1 (.t 4), none, [8]⟩,
    ⟨some 6, .move (.t 0), none, []⟩,
    ⟨some 7, .nilCheck (.t 6), none, []⟩,
    ⟨some 8, .fieldAddr 19 (.t 7), none, []⟩,
    ⟨some 9, .load1 (.t 8), none, [8]⟩,
    ⟨some 10, .len .sl (.t 9), none, []⟩,
    ⟨some 11, .bin .sub (.t 10) (.c (.int .i64 1)), none, []⟩,
    ⟨some 12, .callF 86 [(.t 5), (.c (.int .i64 0)), (.t 11)], none, []⟩,
    ⟨some 13, .move (.t 12), none, []⟩,
    ⟨some 14, .fieldAddr 9 (.t 3), some (13, true), []⟩,
    ⟨some 15, .load1 (.t 14), some (13, true), [12]⟩,
    ⟨some 16, .callF 86 [(.t 15), (.c (.int .i64 0)), (.c (.int .i64 2))], some (13, true), []⟩,
    ⟨some 17, .pick (.t 13) (.t 16) (.c (.bool false)), none, []⟩,
    ⟨some 18, .callF 174 [(.t 17), (.c (.int .i64 2))], none, []⟩] .sink)
  (.seq (.region [⟨some 19, .fieldAddr 5 (.t 3), none, []⟩,
    ⟨some 20, .loadN 4 (.t 19), none, []⟩,
    ⟨some 21, .callF 140 [(.t 20)], none, []⟩,
    ⟨some 22, .bin .eql (.t 21) (.c (.int .i64 0)), none, []⟩,
    ⟨some 23, .callF 174 [(.t 22), (.c (.int .i64 13))], none, []⟩] .seq)
  (.region [⟨some 24, .fieldAddr 5 (.t 3), none, []⟩,
    ⟨some 25, .loadN 4 (.t 24), none, [2]⟩,
    ⟨some 26, .callF 49 [(.t 25)], none, []⟩,
    ⟨some 27, .move (.t 0), none, []⟩,
    ⟨some 28, .nilCheck (.t 27), none, []⟩,
    ⟨some 29, .fieldAddr 19 (.t 28), none, []⟩,
    ⟨some 30, .load1 (.t 29), none, [2, 11]⟩,
    ⟨some 31, .fieldAddr 4 (.t 3), none, []⟩,
    ⟨some 32, .load1 (.t 31), none, [2, 11]⟩,
    ⟨some 33, .indexAddrS 4 (.t 30) (.t 32), none, []⟩,
    ⟨some 34, .loadN 4 (.t 33), none, [2, 11]⟩,
    ⟨some 35, .callF 49 [(.t 34)], none, []⟩,
    ⟨some 36, .bin .eql (.t 26) (.t 35), none, []⟩,
    ⟨some 37, .callF 174 [(.t 36), (.c (.int .i64 14))], none, []⟩] .sink))))⟩
/-- anabranch/bin.Turns -/
def BF180 : AFunc := ⟨19, [.cell1 4], (.seq (.region [⟨some 2, .box 82 (.t 0), none, []⟩,
    ⟨some 4, .alloc 82 [.sl0], none, []⟩] .seq)
  (.seq (.seq (.region [⟨some 6, .move (.t 1), none, []⟩,
    ⟨some 7, .callF 155 [(.t 6)], none, []⟩] .seq)
  (.block 0 (.rangeFunc (.t 7) [8] (.region [⟨some 5, .move (.t 8), none, []⟩] .seq)
  (.block 1 (.seq (.seq (.region [⟨some 9, .load1 (.t 4), none, []⟩,
    ⟨some 10, .len .sl (.t 9), none, []⟩,
    ⟨some 11, .load1 (.t 2), none, []⟩,
    ⟨some 12, .len .sl (.t 11), none, []⟩,
    ⟨some 13, .bin .eql (.t 10) (.t 12), none, []⟩] .seq)
  (.cond (.t 13) (.exit 0)
  .skip))
  (.region [⟨some 14, .load1 (.t 4), none, []⟩,
    ⟨some 15, .move (.t 5), none, []⟩,
    ⟨some 16, .buildSlice 3 1 1 [(.int .i64 0)] [(0, 1, (.t 15))], none, []⟩,
    ⟨some 17, .append 3 1 8 [(.int .i64 0)] (.t 14) (.t 16), none, []⟩,
    ⟨none, .store 1 (.t 4) (.t 17), none, []⟩] .seq))))))
  (.seq (.region [⟨some 18, .load1 (.t 4), none, []⟩,
    ⟨none, .store 1 (.t 4) (.t 18), none, []⟩] .seq)
  .ret)))⟩
/-- slices.pdqsortOrdered[int] -/
def BF181 : AFunc := ⟨134, [], (.seq (.region [⟨some 8, .move (.c (.bool true)), none, []⟩] .seq)
  (.seq (.region [⟨some 9, .move (.c (.bool true)), none, []⟩] .seq)
  (.block 0 (.loop (.block 1 (.seq (.region [⟨some 19, .move (.t 2), none, []⟩,
    ⟨some 20, .move (.t 1), none, []⟩,
    ⟨some 21, .bin .sub (.t 19) (.t 20), none, []⟩,
    ⟨some 10, .move (.t 21), none, []⟩] .seq)
  (.seq (.seq (.region [⟨some 22, .move (.t 10), none, []⟩,
    ⟨some 23, .bin .leq (.t 22) (.c (.int .i64 12)), none, []⟩] .seq)
  (.cond (.t 23) (.seq (.region [⟨some 24, .move (.t 0), none, []⟩,
    ⟨some 25, .move (.t 1), none, []⟩,
    ⟨some 26, .move (.t 2), none, []⟩,
    ⟨some 27, .callF 219 [(.t 24), (.t 25), (.t 26)], none, []⟩] .seq)
  .ret)
  .skip))
  (.seq (.seq (.region [⟨some 28, .move (.t 3), none, []⟩,
    ⟨some 29, .bin .eql (.t 28) (.c (.int .i64 0)), none, []⟩] .seq)
  (.cond (.t 29) (.seq (.region [⟨some 30, .move (.t 0), none, []⟩,
    ⟨some 31, .move (.t 1), none, []⟩,
    ⟨some 32, .move (.t 2), none, []⟩,
    ⟨some 33, .callF 220 [(.t 30), (.t 31), (.t 32)], none, []⟩] .seq)
  .ret)
  .skip))
  (.seq (.seq (.region [⟨some 34, .move (.t 8), none, []⟩,
    ⟨some 35, .un .not (.t 34), none, []⟩] .seq)
  (.cond (.t 35) (.seq (.region [⟨some 36, .move (.t 0), none, []⟩,
    ⟨some 37, .move (.t 1), none, []⟩,
    ⟨some 38, .move (.t 2), none, []⟩,
    ⟨some 39, .callF 221 [(.t 36), (.t 37), (.t 38)], none, []⟩] .seq)
  (.region [⟨some 40, .move (.t 3), none, []⟩,
    ⟨some 41, .bin .sub (.t 40) (.c (.int .i64 1)), none, []⟩,
    ⟨some 3, .move (.t 41), none, []⟩] .seq))
  .skip))
  (.seq (.region [⟨some 43, .move (.t 0), none, []⟩,
    ⟨some 44, .move (.t 1), none, []⟩,
    ⟨some 45, .move (.t 2), none, []⟩,
    ⟨some 46, .callF 222 [(.t 43), (.t 44), (.t 45)], none, []⟩,
    ⟨some 42, .move (.t 46), none, []⟩,
    ⟨some 47, .extract (.t 42) 0, none, []⟩,
    ⟨some 48, .extract (.t 42) 1, none, []⟩,
    ⟨some 11, .move (.t 47), none, []⟩,
    ⟨some 12, .move (.t 48), none, []⟩] .seq)
  (.seq (.seq (.region [⟨some 49, .move (.t 12), none, []⟩,
    ⟨some 50, .bin .eql (.t 49) (.c (.int .i64 2)), none, []⟩] .seq)
  (.cond (.t 50) (.seq (.region [⟨some 51, .move (.t 0), none, []⟩,
    ⟨some 52, .move (.t 1), none, []⟩,
    ⟨some 53, .move (.t 2), none, []⟩,
    ⟨some 54, .callF 223 [(.t 51), (.t 52), (.t 53)], none, []⟩] .seq)
  (.seq (.region [⟨some 55, .move (.t 2), none, []⟩,
    ⟨some 56, .bin .sub (.t 55) (.c (.int .i64 1)), none, []⟩,
    ⟨some 57, .move (.t 11), none, []⟩,
    ⟨some 58, .move (.t 1), none, []⟩,
    ⟨some 59, .bin .sub (.t 57) (.t 58), none, []⟩,
    ⟨some 60, .bin .sub (.t 56) (.t 59), none, []⟩,
    ⟨some 11, .move (.t 60), none, []⟩] .seq)
  (.region [⟨some 12, .move (.c (.int .i64 1)), none, []⟩] .seq)))
  .skip))
  (.seq (.seq (.region [⟨some 61, .move (.t 8), none, []⟩,
    ⟨some 62, .move (.t 61), none, []⟩,
    ⟨some 63, .move (.t 9), some (62, true), []⟩,
    ⟨some 64, .pick (.t 62) (.t 63) (.c (.bool false)), none, []⟩,
    ⟨some 65, .move (.t 64), none, []⟩,
    ⟨some 66, .move (.t 12), some (65, true), []⟩,
    ⟨some 67, .bin .eql (.t 66) (.c (.int .i64 1)), some (65, true), []⟩,
    ⟨some 68, .pick (.t 65) (.t 67) (.c (.bool false)), none, []⟩] .seq)
  (.cond (.t 68) (.seq (.region [⟨some 69, .move (.t 0), none, []⟩,
    ⟨some 70, .move (.t 1), none, []⟩,
    ⟨some 71, .move (.t 2), none, []⟩,
    ⟨some 72, .callF 224 [(.t 69), (.t 70), (.t 71)], none, []⟩] .seq)
  (.cond (.t 72) .ret
  .skip))
  .skip))
  (.seq (.seq (.region [⟨some 73, .move (.t 1), none, []⟩,
    ⟨some 74, .bin .gtr (.t 73) (.c (.int .i64 0)), none, []⟩,
    ⟨some 75, .move (.t 74), none, []⟩,
    ⟨some 76, .move (.t 0), some (75, true), []⟩,
    ⟨some 77, .move (.t 1), some (75, true), []⟩,
    ⟨some 78, .bin .sub (.t 77) (.c (.int .i64 1)), some (75, true), []⟩,
    ⟨some 79, .indexAddrS 1 (.t 76) (.t 78), some (75, true), []⟩,
    ⟨some 80, .load1 (.t 79), some (75, true), [12]⟩,
    ⟨some 81, .move (.t 0), some (75, true), []⟩,
    ⟨some 82, .move (.t 11), some (75, true), []⟩,
    ⟨some 83, .indexAddrS 1 (.t 81) (.t 82), some (75, true), []⟩,
    ⟨some 84, .load1 (.t 83), some (75, true), [12]⟩,
    ⟨some 85, .callF 225 [(.t 80), (.t 84)], some (75, true), []⟩,
    ⟨some 86, .un .not (.t 85), some (75, true), []⟩,
    ⟨some 87, .pick (.t 75) (.t 86) (.c (.bool false)), none, []⟩] .sink)
  (.cond (.t 87) (.seq (.region [⟨some 88, .move (.t 0), none, []⟩,
    ⟨some 89, .move (.t 1), none, []⟩,
    ⟨some 90, .move (.t 2), none, []⟩,
    ⟨some 91, .move (.t 11), none, []⟩,
    ⟨some 92, .callF 226 [(.t 88), (.t 89), (.t 90), (.t 91)], none, []⟩,
    ⟨some 13, .move (.t 92), none, []⟩] .seq)
  (.seq (.region [⟨some 93, .move (.t 13), none, []⟩,
    ⟨some 1, .move (.t 93), none, []⟩] .seq)
  (.exit 1)))
  .skip))
  (.seq (.region [⟨some 95, .move (.t 0), none, []⟩,
    ⟨some 96, .move (.t 1), none, []⟩,
    ⟨some 97, .move (.t 2), none, []⟩,
    ⟨some 98, .move (.t 11), none, []⟩,
    ⟨some 99, .callF 227 [(.t 95), (.t 96), (.t 97), (.t 98)], none, []⟩,
    ⟨some 94, .move (.t 99), none, []⟩,
    ⟨some 100, .extract (.t 94) 0, none, []⟩,
    ⟨some 101, .extract (.t 94) 1, none, []⟩,
    ⟨some 14, .move (.t 100), none, []⟩,
    ⟨some 15, .move (.t 101), none, []⟩] .seq)
  (.seq (.region [⟨some 102, .move (.t 15), none, []⟩,
    ⟨some 9, .move (.t 102), none, []⟩] .seq)
  (.seq (.region [⟨some 103, .move (.t 14), none, []⟩,
    ⟨some 104, .move (.t 1), none, []⟩,
    ⟨some 105, .bin .sub (.t 103) (.t 104), none, []⟩,
    ⟨some 106, .move (.t 2), none, []⟩,
    ⟨some 107, .move (.t 14), none, []⟩,
    ⟨some 108, .bin .sub (.t 106) (.t 107), none, []⟩,
    ⟨some 16, .move (.t 105), none, []⟩,
    ⟨some 17, .move (.t 108), none, []⟩] .seq)
  (.seq (.region [⟨some 109, .move (.t 10), none, []⟩,
    ⟨some 110, .bin .quo (.t 109) (.c (.int .i64 8)), none, []⟩,
    ⟨some 18, .move (.t 110), none, []⟩] .seq)
  (.seq (.region [⟨some 111, .move (.t 16), none, []⟩,
    ⟨some 112, .move (.t 17), none, []⟩,
    ⟨some 113, .bin .lss (.t 111) (.t 112), none, []⟩] .seq)
  (.cond (.t 113) (.seq (.region [⟨some 114, .move (.t 16), none, []⟩,
    ⟨some 115, .move (.t 18), none, []⟩,
    ⟨some 116, .bin .geq (.t 114) (.t 115), none, []⟩,
    ⟨some 8, .move (.t 116), none, []⟩] .seq)
  (.seq (.region [⟨some 117, .move (.t 0), none, []⟩,
    ⟨some 118, .move (.t 1), none, []⟩,
    ⟨some 119, .move (.t 14), none, []⟩,
    ⟨some 120, .move (.t 3), none, []⟩,
    ⟨some 121, .callF 181 [(.t 117), (.t 118), (.t 119), (.t 120)], none, []⟩] .seq)
  (.region [⟨some 122, .move (.t 14), none, []⟩,
    ⟨some 123, .bin .add (.t 122) (.c (.int .i64 1)), none, []⟩,
    ⟨some 1, .move (.t 123), none, []⟩] .seq)))
  (.seq (.region [⟨some 124, .move (.t 17), none, []⟩,
    ⟨some 125, .move (.t 18), none, []⟩,
    ⟨some 126, .bin .geq (.t 124) (.t 125), none, []⟩,
    ⟨some 8, .move (.t 126), none, []⟩] .seq)
  (.seq (.region [⟨some 127, .move (.t 0), none, []⟩,
    ⟨some 128, .move (.t 14), none, []⟩,
    ⟨some 129, .bin .add (.t 128) (.c (.int .i64 1)), none, []⟩,
    ⟨some 130, .move (.t 2), none, []⟩,
    ⟨some 131, .move (.t 3), none, []⟩,
    ⟨some 132, .callF 181 [(.t 127), (.t 129), (.t 130), (.t 131)], none, []⟩] .seq)
  (.region [⟨some 133, .move (.t 14), none, []⟩,
    ⟨some 2, .move (.t 133), none, []⟩] .seq))))))))))))))))))))))⟩
/-- math/bits.Len -/
def BF182 : AFunc := ⟨8, [.tmp 2], (.seq (.region [⟨some 2, .move (.c (.int .i64 0)), none, []⟩] .seq)
  (.seq (.cond (.c (.bool false)) (.seq (.region [⟨some 3, .move (.t 0), none, []⟩,
    ⟨some 4, .conv .u32 (.t 3), none, []⟩,
    ⟨some 5, .callF 228 [(.t 4)], none, []⟩,
    ⟨some 2, .move (.t 5), none, []⟩] .seq)
  .ret)
  .skip)
  (.seq (.region [⟨some 6, .move (.t 0), none, []⟩,
    ⟨some 7, .callF 229 [(.t 6)], none, []⟩,
    ⟨some 2, .move (.t 7), none, []⟩] .seq)
  .ret)))⟩
/-- slices.IndexFunc[[]int,int] -/
def BF183 : AFunc := ⟨19, [.tmp 4], (.seq (.region [⟨some 4, .move (.c (.int .i64 0)), none, []⟩] .seq)
  (.seq (.seq (.region [⟨some 6, .move (.t 0), none, []⟩,
    ⟨some 7, .len .sl (.t 6), none, []⟩,
    ⟨some 8, .move (.c (.int .i64 0)), none, []⟩] .seq)
  (.block 0 (.loop (.seq (.region [⟨some 9, .bin .lss (.t 8) (.t 7), none, []⟩] .seq)
  (.seq (.cond (.t 9) .skip
  (.exit 0))
  (.seq (.block 1 (.seq (.region [⟨some 10, .move (.t 8), none, []⟩,
    ⟨some 5, .move (.t 10), none, []⟩] .seq)
  (.seq (.region [⟨some 11, .move (.t 1), none, []⟩,
    ⟨some 12, .move (.t 0), none, []⟩,
    ⟨some 13, .move (.t 5), none, []⟩,
    ⟨some 14, .indexAddrS 1 (.t 12) (.t 13), none, []⟩,
    ⟨some 15, .load1 (.t 14), none, []⟩,
    ⟨some 16, .callV (.t 11) [(.t 15)], none, []⟩] .seq)
  (.cond (.t 16) (.seq (.region [⟨some 17, .move (.t 5), none, []⟩,
    ⟨some 4, .move (.t 17), none, []⟩] .seq)
  .ret)
  .skip))))
  (.region [⟨some 18, .bin .add (.t 8) (.c (.int .i64 1)), none, []⟩,
    ⟨some 8, .move (.t 18), none, []⟩] .seq)))))))
  (.seq (.region [⟨some 4, .move (.c (.int .i64 (-1))), none, []⟩] .seq)
  .ret)))⟩
/-- anabranch/anabranchref04.in -/
def BF184 : AFunc := ⟨15, [.tmp 6], (.seq (.region [⟨some 6, .move (.c (.bool false)), none, []⟩] .seq)
  (.seq (.region [⟨some 7, .move (.t 0), none, []⟩,
    ⟨some 8, .move (.t 1), none, []⟩,
    ⟨some 9, .bin .geq (.t 7) (.t 8), none, []⟩,
    ⟨some 10, .move (.t 9), none, []⟩,
    ⟨some 11, .move (.t 0), some (10, true), []⟩,
    ⟨some 12, .move (.t 2), some (10, true), []⟩,
    ⟨some 13, .bin .leq (.t 11) (.t 12), some (10, true), []⟩,
    ⟨some 14, .pick (.t 10) (.t 13) (.c (.bool false)), none, []⟩,
    ⟨some 6, .move (.t 14), none, []⟩] .seq)
  .ret))⟩
/-- anabranch/win.from$1 -/
def BF208 : AFunc := ⟨36, [], (.seq (.region [⟨some 7, .load1 (.t 1), none, []⟩,
    ⟨some 8, .load1 (.t 2), none, []⟩,
    ⟨some 9, .bin .rem (.t 7) (.t 8), none, []⟩,
    ⟨some 5, .move (.t 9), none, []⟩] .seq)
  (.seq (.seq (.region [⟨some 10, .move (.t 5), none, []⟩,
    ⟨some 11, .bin .lss (.t 10) (.c (.int .i64 0)), none, []⟩] .seq)
  (.cond (.t 11) (.region [⟨some 12, .move (.t 5), none, []⟩,
    ⟨some 13, .load1 (.t 2), none, []⟩,
    ⟨some 14, .bin .add (.t 12) (.t 13), none, []⟩,
    ⟨some 5, .move (.t 14), none, []⟩] .seq)
  .skip))
  (.seq (.region [⟨some 15, .load1 (.t 1), none, []⟩,
    ⟨some 16, .move (.t 5), none, []⟩,
    ⟨some 17, .bin .sub (.t 15) (.t 16), none, []⟩,
    ⟨some 18, .load1 (.t 3), none, []⟩,
    ⟨some 19, .bin .sub (.t 17) (.t 18), none, []⟩,
    ⟨some 20, .load1 (.t 2), none, []⟩,
    ⟨some 21, .bin .add (.t 19) (.t 20), none, []⟩,
    ⟨some 6, .move (.t 21), none, []⟩] .seq)
  (.block 0 (.loop (.seq (.seq (.region [⟨some 22, .move (.t 6), none, []⟩,
    ⟨some 23, .load1 (.t 1), none, []⟩,
    ⟨some 24, .bin .leq (.t 22) (.t 23), none, []⟩] .seq)
  (.cond (.t 24) .skip
  (.exit 0)))
  (.seq (.block 1 (.seq (.region [⟨some 28, .move (.t 0), none, []⟩,
    ⟨some 29, .move (.t 6), none, []⟩,
    ⟨some 30, .move (.t 6), none, []⟩,
    ⟨some 31, .load1 (.t 3), none, []⟩,
    ⟨some 32, .bin .add (.t 30) (.t 31), none, []⟩,
    ⟨some 33, .build [(.int .i64 0), (.int .i64 0)] [(0, 1, (.t 29)), (1, 1, (.t 32))], none, []⟩,
    ⟨some 34, .callV (.t 28) [(.t 33)], none, []⟩,
    ⟨some 35, .un .not (.t 34), none, []⟩] .seq)
  (.cond (.t 35) .ret
  .skip)))
  (.region [⟨some 25, .move (.t 6), none, []⟩,
    ⟨some 26, .load1 (.t 2), none, []⟩,
    ⟨some 27, .bin .add (.t 25) (.t 26), none, []⟩,
    ⟨some 6, .move (.t 27), none, []⟩] .seq))))))))⟩
/-- slices.Values[[][2]int64,[2]int64]$1 -/
def BF209 : AFunc := ⟨16, [], (.seq (.region [⟨some 5, .load1 (.t 1), none, []⟩,
    ⟨some 6, .len .sl (.t 5), none, []⟩,
    ⟨some 7, .move (.c (.int .i64 0)), none, []⟩] .seq)
  (.block 0 (.loop (.seq (.region [⟨some 8, .bin .lss (.t 7) (.t 6), none, []⟩] .seq)
  (.seq (.cond (.t 8) .skip
  (.exit 0))
  (.seq (.block 1 (.seq (.region [⟨some 9, .indexAddrS 2 (.t 5) (.t 7), none, []⟩,
    ⟨some 10, .loadN 2 (.t 9), none, []⟩,
    ⟨some 4, .alloc 96 [(.int .i64 0), (.int .i64 0)], none, []⟩,
    ⟨none, .store 2 (.t 4) (.t 10), none, []⟩] .seq)
  (.seq (.region [⟨some 11, .move (.t 0), none, []⟩,
    ⟨some 12, .loadN 2 (.t 4), none, []⟩,
    ⟨some 13, .callV (.t 11) [(.t 12)], none, []⟩,
    ⟨some 14, .un .not (.t 13), none, []⟩] .seq)
  (.cond (.t 14) .ret
  .skip))))
  (.region [⟨some 15, .bin .add (.t 7) (.c (.int .i64 1)), none, []⟩,
    ⟨some 7, .move (.t 15), none, []⟩] .seq)))))))⟩
/-- slices.AppendSeq[[][2]int64,[2]int64] -/
def BF210 : AFunc := ⟨13, [.tmp 4], (.seq (.region [⟨some 2, .box 163 (.t 0), none, []⟩,
    ⟨some 4, .move (.c .sl0), none, []⟩] .seq)
  (.seq (.seq (.region [⟨some 6, .move (.t 1), none, []⟩] .seq)
  (.block 0 (.rangeFunc (.t 6) [7] (.region [⟨some 5, .alloc 96 [(.int .i64 0), (.int .i64 0)], none, []⟩,
    ⟨none, .store 2 (.t 5) (.t 7), none, []⟩] .seq)
  (.block 1 (.region [⟨some 8, .load1 (.t 2), none, []⟩,
    ⟨some 9, .loadN 2 (.t 5), none, []⟩,
    ⟨some 10, .buildSlice 96 1 2 [(.int .i64 0), (.int .i64 0)] [(0, 2, (.t 9))], none, []⟩,
    ⟨some 11, .append 96 2 16 [(.int .i64 0), (.int .i64 0)] (.t 8) (.t 10), none, []⟩,
    ⟨none, .store 1 (.t 2) (.t 11), none, []⟩] .seq)))))
  (.seq (.region [⟨some 12, .load1 (.t 2), none, []⟩,
    ⟨some 4, .move (.t 12), none, []⟩] .seq)
  .ret)))⟩
/-- anabranch/plan.nodes$1 -/
def BF211 : AFunc := ⟨59, [], (.seq (.seq (.region [⟨some 9, .fieldAddr 0 (.t 1), none, []⟩,
    ⟨some 10, .load1 (.t 9), none, []⟩,
    ⟨some 11, .len .sl (.t 10), none, []⟩,
    ⟨some 12, .move (.c (.int .i64 0)), none, []⟩] .seq)
  (.block 0 (.loop (.seq (.region [⟨some 13, .bin .lss (.t 12) (.t 11), none, []⟩] .seq)
  (.seq (.cond (.t 13) .skip
  (.exit 0))
  (.seq (.block 1 (.seq (.region [⟨some 14, .move (.t 12), none, []⟩,
    ⟨some 15, .indexAddrS 4 (.t 10) (.t 12), none, []⟩,
    ⟨some 16, .loadN 4 (.t 15), none, []⟩,
    ⟨some 4, .alloc 84 [(.int .i64 0), (.int .i64 0), (.int .i64 0), (.int .i64 0)], none, []⟩,
    ⟨some 3, .move (.t 14), none, []⟩,
    ⟨none, .store 4 (.t 4) (.t 16), none, []⟩] .seq)
  (.seq (.region [⟨some 17, .move (.t 0), none, []⟩,
    ⟨some 18, .move (.t 3), none, []⟩,
    ⟨some 19, .build [(.int .i64 0), (.int .i64 0)] [(0, 1, (.c (.int .i64 0))), (1, 1, (.t 18))], none, []⟩,
    ⟨some 20, .loadN 4 (.t 4), none, []⟩,
    ⟨some 21, .callV (.t 17) [(.t 19), (.t 20)], none, []⟩,
    ⟨some 22, .un .not (.t 21), none, []⟩] .seq)
  (.cond (.t 22) .ret
  .skip))))
  (.region [⟨some 23, .bin .add (.t 12) (.c (.int .i64 1)), none, []⟩,
    ⟨some 12, .move (.t 23), none, []⟩] .seq)))))))
  (.seq (.region [⟨some 24, .fieldAddr 1 (.t 1), none, []⟩,
    ⟨some 25, .load1 (.t 24), none, []⟩,
    ⟨some 26, .len .sl (.t 25), none, []⟩,
    ⟨some 27, .move (.c (.int .i64 0)), none, []⟩] .seq)
  (.block 2 (.loop (.seq (.region [⟨some 28, .bin .lss (.t 27) (.t 26), none, []⟩] .seq)
  (.seq (.cond (.t 28) .skip
  (.exit 2))
  (.seq (.block 3 (.seq (.region [⟨some 29, .move (.t 27), none, []⟩,
    ⟨some 30, .indexAddrS 5 (.t 25) (.t 27), none, []⟩,
    ⟨some 31, .loadN 5 (.t 30), none, []⟩,
    ⟨some 6, .alloc 95 [(.int .i64 0), (.int .i64 0), (.int .i64 0), (.int .i64 0), .sl0], none, []⟩,
    ⟨some 5, .move (.t 29), none, []⟩,
    ⟨none, .store 5 (.t 6) (.t 31), none, []⟩] .seq)
  (.seq (.seq (.region [⟨some 32, .move (.t 0), none, []⟩,
    ⟨some 33, .move (.t 5), none, []⟩,
    ⟨some 34, .bin .add (.t 33) (.c (.int .i64 1)), none, []⟩,
    ⟨some 35, .build [(.int .i64 0), (.int .i64 0)] [(0, 1, (.t 34)), (1, 1, (.c (.int .i64 0)))], none, []⟩,
    ⟨some 36, .fieldAddr 0 (.t 6), none, []⟩,
    ⟨some 37, .loadN 4 (.t 36), none, []⟩,
    ⟨some 38, .callV (.t 32) [(.t 35), (.t 37)], none, []⟩,
    ⟨some 39, .un .not (.t 38), none, []⟩] .seq)
  (.cond (.t 39) .ret
  .skip))
  (.seq (.region [⟨some 40, .fieldAddr 4 (.t 6), none, []⟩,
    ⟨some 41, .load1 (.t 40), none, []⟩,
    ⟨some 42, .len .sl (.t 41), none, []⟩,
    ⟨some 43, .move (.c (.int .i64 0)), none, []⟩] .seq)
  (.block 4 (.loop (.seq (.region [⟨some 44, .bin .lss (.t 43) (.t 42), none, []⟩] .seq)
  (.seq (.cond (.t 44) .skip
  (.exit 4))
  (.seq (.block 5 (.seq (.region [⟨some 45, .move (.t 43), none, []⟩,
    ⟨some 46, .indexAddrS 4 (.t 41) (.t 43), none, []⟩,
    ⟨some 47, .loadN 4 (.t 46), none, []⟩,
    ⟨some 8, .alloc 84 [(.int .i64 0), (.int .i64 0), (.int .i64 0), (.int .i64 0)], none, []⟩,
    ⟨some 7, .move (.t 45), none, []⟩,
    ⟨none, .store 4 (.t 8) (.t 47), none, []⟩] .seq)
  (.seq (.region [⟨some 48, .move (.t 0), none, []⟩,
    ⟨some 49, .move (.t 5), none, []⟩,
    ⟨some 50, .bin .add (.t 49) (.c (.int .i64 1)), none, []⟩,
    ⟨some 51, .move (.t 7), none, []⟩,
    ⟨some 52, .bin .add (.t 51) (.c (.int .i64 1)), none, []⟩,
    ⟨some 53, .build [(.int .i64 0), (.int .i64 0)] [(0, 1, (.t 50)), (1, 1, (.t 52))], none, []⟩,
    ⟨some 54, .loadN 4 (.t 8), none, []⟩,
    ⟨some 55, .callV (.t 48) [(.t 53), (.t 54)], none, []⟩,
    ⟨some 56, .un .not (.t 55), none, []⟩] .seq)
  (.cond (.t 56) .ret
  .skip))))
  (.region [⟨some 57, .bin .add (.t 43) (.c (.int .i64 1)), none, []⟩,
    ⟨some 43, .move (.t 57), none, []⟩] .seq))))))))))
  (.region [⟨some 58, .bin .add (.t 27) (.c (.int .i64 1)), none, []⟩,
    ⟨some 27, .move (.t 58), none, []⟩] .seq))))))))⟩
/-- anabranch/bin.turns$1 -/
def BF212 : AFunc := ⟨19, [], (.block 0 (.loop (.seq (.seq (.region [⟨some 5, .load1 (.t 1), none, []⟩,
    ⟨some 6, .len .sl (.t 5), none, []⟩,
    ⟨some 7, .bin .gtr (.t 6) (.c (.int .i64 0)), none, []⟩] .seq)
  (.cond (.t 7) .skip
  (.exit 0)))
  (.block 1 (.seq (.region [⟨some 8, .load1 (.t 1), none, []⟩,
    ⟨some 9, .len .sl (.t 8), none, []⟩,
    ⟨some 10, .move (.c (.int .i64 0)), none, []⟩] .seq)
  (.block 2 (.loop (.seq (.region [⟨some 11, .bin .lss (.t 10) (.t 9), none, []⟩] .seq)
  (.seq (.cond (.t 11) .skip
  (.exit 2))
  (.seq (.block 3 (.seq (.region [⟨some 12, .indexAddrS 1 (.t 8) (.t 10), none, []⟩,
    ⟨some 13, .load1 (.t 12), none, []⟩,
    ⟨some 4, .move (.t 13), none, []⟩] .seq)
  (.seq (.region [⟨some 14, .move (.t 0), none, []⟩,
    ⟨some 15, .move (.t 4), none, []⟩,
    ⟨some 16, .callV (.t 14) [(.t 15)], none, []⟩,
    ⟨some 17, .un .not (.t 16), none, []⟩] .seq)
  (.cond (.t 17) .ret
  .skip))))
  (.region [⟨some 18, .bin .add (.t 10) (.c (.int .i64 1)), none, []⟩,
    ⟨some 10, .move (.t 18), none, []⟩] .seq)))))))))))⟩
/-- anabranch/oper.only -/
def BF213 : AFunc := ⟨4, [.tmp 2], (.seq (.region [⟨some 1, .box 43 (.t 0), none, []⟩,
    ⟨some 2, .move (.c .fn0), none, []⟩] .seq)
  (.seq (.region [⟨some 3, .mkFunc 241 [] [(.t 1)], none, []⟩,
    ⟨some 2, .move (.t 3), none, []⟩] .seq)
  .ret))⟩
/-- anabranch/oper.filtered$1 -/
def BF214 : AFunc := ⟨2, [], .skip⟩
/-- anabranch/oper.copied$1 -/
def BF215 : AFunc := ⟨19, [], (.seq (.region [⟨some 4, .fieldAddr 1 (.t 1), none, []⟩,
    ⟨some 5, .load1 (.t 4), none, []⟩,
    ⟨some 6, .move (.c (.int .i64 0)), none, []⟩] .seq)
  (.block 0 (.loop (.seq (.region [⟨some 7, .bin .lss (.t 6) (.t 5), none, []⟩] .seq)
  (.seq (.cond (.t 7) .skip
  (.exit 0))
  (.seq (.block 1 (.seq (.seq (.region [⟨some 8, .move (.t 0), none, []⟩,
    ⟨some 9, .loadN 6 (.t 2), none, []⟩,
    ⟨some 10, .callV (.t 8) [(.t 9)], none, []⟩,
    ⟨some 11, .un .not (.t 10), none, []⟩] .seq)
  (.cond (.t 11) .ret
  .skip))
  (.region [⟨some 12, .fieldAddr 2 (.t 2), none, []⟩,
    ⟨some 13, .load1 (.t 12), none, []⟩,
    ⟨some 14, .fieldAddr 2 (.t 1), none, []⟩,
    ⟨some 15, .load1 (.t 14), none, []⟩,
    ⟨some 16, .bin .add (.t 13) (.t 15), none, []⟩,
    ⟨some 17, .fieldAddr 2 (.t 2), none, []⟩,
    ⟨none, .store 1 (.t 17) (.t 16), none, []⟩] .seq)))
  (.region [⟨some 18, .bin .add (.t 6) (.c (.int .i64 1)), none, []⟩,
    ⟨some 6, .move (.t 18), none, []⟩] .seq)))))))⟩
/-- slices.rotateCmpFunc[anabranch/api.Entry] -/
def BF216 : AFunc := ⟨58, [], (.seq (.region [⟨some 12, .move (.t 2), none, []⟩,
    ⟨some 13, .move (.t 1), none, []⟩,
    ⟨some 14, .bin .sub (.t 12) (.t 13), none, []⟩,
    ⟨some 10, .move (.t 14), none, []⟩] .seq)
  (.seq (.region [⟨some 15, .move (.t 3), none, []⟩,
    ⟨some 16, .move (.t 2), none, []⟩,
    ⟨some 17, .bin .sub (.t 15) (.t 16), none, []⟩,
    ⟨some 11, .move (.t 17), none, []⟩] .seq)
  (.seq (.block 0 (.loop (.seq (.seq (.region [⟨some 18, .move (.t 10), none, []⟩,
    ⟨some 19, .move (.t 11), none, []⟩,
    ⟨some 20, .bin .neq (.t 18) (.t 19), none, []⟩] .seq)
  (.cond (.t 20) .skip
  (.exit 0)))
  (.block 1 (.seq (.region [⟨some 21, .move (.t 10), none, []⟩,
    ⟨some 22, .move (.t 11), none, []⟩,
    ⟨some 23, .bin .gtr (.t 21) (.t 22), none, []⟩] .seq)
  (.cond (.t 23) (.seq (.region [⟨some 24, .move (.t 0), none, []⟩,
    ⟨some 25, .move (.t 2), none, []⟩,
    ⟨some 26, .move (.t 10), none, []⟩,
    ⟨some 27, .bin .sub (.t 25) (.t 26), none, []⟩,
    ⟨some 28, .move (.t 2), none, []⟩,
    ⟨some 29, .move (.t 11), none, []⟩,
    ⟨some 30, .move (.t 4), none, []⟩,
    ⟨some 31, .callF 242 [(.t 24), (.t 27), (.t 28), (.t 29), (.t 30)], none, []⟩] .seq)
  (.region [⟨some 32, .move (.t 10), none, []⟩,
    ⟨some 33, .move (.t 11), none, []⟩,
    ⟨some 34, .bin .sub (.t 32) (.t 33), none, []⟩,
    ⟨some 10, .move (.t 34), none, []⟩] .seq))
  (.seq (.region [⟨some 35, .move (.t 0), none, []⟩,
    ⟨some 36, .move (.t 2), none, []⟩,
    ⟨some 37, .move (.t 10), none, []⟩,
    ⟨some 38, .bin .sub (.t 36) (.t 37), none, []⟩,
    ⟨some 39, .move (.t 2), none, []⟩,
    ⟨some 40, .move (.t 11), none, []⟩,
    ⟨some 41, .bin .add (.t 39) (.t 40), none, []⟩,
    ⟨some 42, .move (.t 10), none, []⟩,
    ⟨some 43, .bin .sub (.t 41) (.t 42), none, []⟩,
    ⟨some 44, .move (.t 10), none, []⟩,
    ⟨some 45, .move (.t 4), none, []⟩,
    ⟨some 46, .callF 242 [(.t 35), (.t 38), (.t 43), (.t 44), (.t 45)], none, []⟩] .seq)
  (.region [⟨some 47, .move (.t 11), none, []⟩,
    ⟨some 48, .move (.t 10), none, []⟩,
    ⟨some 49, .bin .sub (.t 47) (.t 48), none, []⟩,
    ⟨some 11, .move (.t 49), none, []⟩] .seq))))))))
  (.region [⟨some 50, .move (.t 0), none, []⟩,
    ⟨some 51, .move (.t 2), none, []⟩,
    ⟨some 52, .move (.t 10), none, []⟩,
    ⟨some 53, .bin .sub (.t 51) (.t 52), none, []⟩,
    ⟨some 54, .move (.t 2), none, []⟩,
    ⟨some 55, .move (.t 10), none, []⟩,
    ⟨some 56, .move (.t 4), none, []⟩,
    ⟨some 57, .callF 242 [(.t 50), (.t 53), (.t 54), (.t 55), (.t 56)], none, []⟩] .seq))))⟩
/-- anabranch/bin.Rising -/
def BF217 : AFunc := ⟨23, [.tmp 2], (.seq (.region [⟨some 2, .move (.c (.bool false)), none, []⟩] .seq)
  (.seq (.region [⟨some 3, .move (.c (.int .i64 (-1))), none, []⟩] .seq)
  (.seq (.seq (.region [⟨some 6, .move (.t 0), none, []⟩,
    ⟨some 7, .len .sl (.t 6), none, []⟩,
    ⟨some 8, .move (.c (.int .i64 0)), none, []⟩] .seq)
  (.block 0 (.loop (.seq (.region [⟨some 9, .bin .lss (.t 8) (.t 7), none, []⟩] .seq)
  (.seq (.cond (.t 9) .skip
  (.exit 0))
  (.seq (.block 1 (.seq (.region [⟨some 10, .indexAddrS 1 (.t 6) (.t 8), none, []⟩,
    ⟨some 11, .load1 (.t 10), none, []⟩,
    ⟨some 5, .move (.t 11), none, []⟩] .seq)
  (.seq (.seq (.region [⟨some 12, .move (.t 5), none, []⟩,
    ⟨some 13, .move (.t 3), none, []⟩,
    ⟨some 14, .bin .leq (.t 12) (.t 13), none, []⟩,
    ⟨some 15, .move (.t 14), none, []⟩,
    ⟨some 16, .move (.t 5), some (15, false), []⟩,
    ⟨some 17, .bin .geq (.t 16) (.c (.int .i64 8)), some (15, false), []⟩,
    ⟨some 18, .pick (.t 15) (.c (.bool true)) (.t 17), none, []⟩] .seq)
  (.cond (.t 18) (.seq (.region [⟨some 2, .move (.c (.bool false)), none, []⟩] .seq)
  .ret)
  .skip))
  (.region [⟨some 19, .move (.t 5), none, []⟩,
    ⟨some 3, .move (.t 19), none, []⟩] .seq))))
  (.region [⟨some 20, .bin .add (.t 8) (.c (.int .i64 1)), none, []⟩,
    ⟨some 8, .move (.t 20), none, []⟩] .seq)))))))
  (.seq (.region [⟨some 21, .move (.t 3), none, []⟩,
    ⟨some 22, .bin .geq (.t 21) (.c (.int .i64 0)), none, []⟩,
    ⟨some 2, .move (.t 22), none, []⟩] .seq)
  .ret))))⟩
/-- slices.Contains[[]int,int] -/
def BF218 : AFunc := ⟨9, [.tmp 4], (.seq (.region [⟨some 4, .move (.c (.bool false)), none, []⟩] .seq)
  (.seq (.region [⟨some 5, .move (.t 0), none, []⟩,
    ⟨some 6, .move (.t 1), none, []⟩,
    ⟨some 7, .callF 243 [(.t 5), (.t 6)], none, []⟩,
    ⟨some 8, .bin .geq (.t 7) (.c (.int .i64 0)), none, []⟩,
    ⟨some 4, .move (.t 8), none, []⟩] .seq)
  .ret))⟩
/-- slices.insertionSortOrdered[int] -/
def BF219 : AFunc := ⟨49, [], (.seq (.region [⟨some 8, .move (.t 1), none, []⟩,
    ⟨some 9, .bin .add (.t 8) (.c (.int .i64 1)), none, []⟩,
    ⟨some 6, .move (.t 9), none, []⟩] .seq)
  (.block 0 (.loop (.seq (.seq (.region [⟨some 10, .move (.t 6), none, []⟩,
    ⟨some 11, .move (.t 2), none, []⟩,
    ⟨some 12, .bin .lss (.t 10) (.t 11), none, []⟩] .seq)
  (.cond (.t 12) .skip
  (.exit 0)))
  (.seq (.block 1 (.seq (.region [⟨some 15, .move (.t 6), none, []⟩,
    ⟨some 7, .move (.t 15), none, []⟩] .seq)
  (.block 2 (.loop (.seq (.seq (.region [⟨some 16, .move (.t 7), none, []⟩,
    ⟨some 17, .move (.t 1), none, []⟩,
    ⟨some 18, .bin .gtr (.t 16) (.t 17), none, []⟩,
    ⟨some 19, .move (.t 18), none, []⟩,
    ⟨some 20, .move (.t 0), some (19, true), []⟩,
    ⟨some 21, .move (.t 7), some (19, true), []⟩,
    ⟨some 22, .indexAddrS 1 (.t 20) (.t 21), some (19, true), []⟩,
    ⟨some 23, .load1 (.t 22), some (19, true), [13]⟩,
    ⟨some 24, .move (.t 0), some (19, true), []⟩,
    ⟨some 25, .move (.t 7), some (19, true), []⟩,
    ⟨some 26, .bin .sub (.t 25) (.c (.int .i64 1)), some (19, true), []⟩,
    ⟨some 27, .indexAddrS 1 (.t 24) (.t 26), some (19, true), []⟩,
    ⟨some 28, .load1 (.t 27), some (19, true), [13]⟩,
    ⟨some 29, .callF 225 [(.t 23), (.t 28)], some (19, true), []⟩,
    ⟨some 30, .pick (.t 19) (.t 29) (.c (.bool false)), none, []⟩] .sink)
  (.cond (.t 30) .skip
  (.exit 2)))
  (.seq (.block 3 (.region [⟨some 33, .move (.t 0), none, []⟩,
    ⟨some 34, .move (.t 7), none, []⟩,
    ⟨some 35, .move (.t 0), none, []⟩,
    ⟨some 36, .move (.t 7), none, []⟩,
    ⟨some 37, .bin .sub (.t 36) (.c (.int .i64 1)), none, []⟩,
    ⟨some 38, .move (.t 0), none, []⟩,
    ⟨some 39, .move (.t 7), none, []⟩,
    ⟨some 40, .bin .sub (.t 39) (.c (.int .i64 1)), none, []⟩,
    ⟨some 41, .indexAddrS 1 (.t 38) (.t 40), none, []⟩,
    ⟨some 42, .load1 (.t 41), none, [15]⟩,
    ⟨some 43, .move (.t 0), none, []⟩,
    ⟨some 44, .move (.t 7), none, []⟩,
    ⟨some 45, .indexAddrS 1 (.t 43) (.t 44), none, []⟩,
    ⟨some 46, .load1 (.t 45), none, [15]⟩,
    ⟨some 47, .indexAddrS 1 (.t 33) (.t 34), none, []⟩,
    ⟨none, .store 1 (.t 47) (.t 42), none, []⟩,
    ⟨some 48, .indexAddrS 1 (.t 35) (.t 37), none, []⟩,
    ⟨none, .store 1 (.t 48) (.t 46), none, []⟩] .sink))
  (.region [⟨some 31, .move (.t 7), none, []⟩,
    ⟨some 32, .bin .sub (.t 31) (.c (.int .i64 1)), none, []⟩,
    ⟨some 7, .move (.t 32), none, []⟩] .seq)))))))
  (.region [⟨some 13, .move (.t 6), none, []⟩,
    ⟨some 14, .bin .add (.t 13) (.c (.int .i64 1)), none, []⟩,
    ⟨some 6, .move (.t 14), none, []⟩] .seq))))))⟩
/-- slices.heapSortOrdered[int] -/
def BF220 : AFunc := ⟨56, [], (.seq (.region [⟨some 11, .move (.t 1), none, []⟩,
    ⟨some 6, .move (.t 11), none, []⟩] .seq)
  (.seq (.region [⟨some 7, .move (.c (.int .i64 0)), none, []⟩] .seq)
  (.seq (.region [⟨some 12, .move (.t 2), none, []⟩,
    ⟨some 13, .move (.t 1), none, []⟩,
    ⟨some 14, .bin .sub (.t 12) (.t 13), none, []⟩,
    ⟨some 8, .move (.t 14), none, []⟩] .seq)
  (.seq (.seq (.region [⟨some 15, .move (.t 8), none, []⟩,
    ⟨some 16, .bin .sub (.t 15) (.c (.int .i64 1)), none, []⟩,
    ⟨some 17, .bin .quo (.t 16) (.c (.int .i64 2)), none, []⟩,
    ⟨some 9, .move (.t 17), none, []⟩] .seq)
  (.block 0 (.loop (.seq (.seq (.region [⟨some 18, .move (.t 9), none, []⟩,
    ⟨some 19, .bin .geq (.t 18) (.c (.int .i64 0)), none, []⟩] .seq)
  (.cond (.t 19) .skip
  (.exit 0)))
  (.seq (.block 1 (.region [⟨some 22, .move (.t 0), none, []⟩,
    ⟨some 23, .move (.t 9), none, []⟩,
    ⟨some 24, .move (.t 8), none, []⟩,
    ⟨some 25, .move (.t 6), none, []⟩,
    ⟨some 26, .callF 244 [(.t 22), (.t 23), (.t 24), (.t 25)], none, []⟩] .seq))
  (.region [⟨some 20, .move (.t 9), none, []⟩,
    ⟨some 21, .bin .sub (.t 20) (.c (.int .i64 1)), none, []⟩,
    ⟨some 9, .move (.t 21), none, []⟩] .seq))))))
  (.seq (.region [⟨some 27, .move (.t 8), none, []⟩,
    ⟨some 28, .bin .sub (.t 27) (.c (.int .i64 1)), none, []⟩,
    ⟨some 10, .move (.t 28), none, []⟩] .seq)
  (.block 2 (.loop (.seq (.seq (.region [⟨some 29, .move (.t 10), none, []⟩,
    ⟨some 30, .bin .geq (.t 29) (.c (.int .i64 0)), none, []⟩] .seq)
  (.cond (.t 30) .skip
  (.exit 2)))
  (.seq (.block 3 (.seq (.region [⟨some 33, .move (.t 0), none, []⟩,
    ⟨some 34, .move (.t 6), none, []⟩,
    ⟨some 35, .move (.t 0), none, []⟩,
    ⟨some 36, .move (.t 6), none, []⟩,
    ⟨some 37, .move (.t 10), none, []⟩,
    ⟨some 38, .bin .add (.t 36) (.t 37), none, []⟩,
    ⟨some 39, .move (.t 0), none, []⟩,
    ⟨some 40, .move (.t 6), none, []⟩,
    ⟨some 41, .move (.t 10), none, []⟩,
    ⟨some 42, .bin .add (.t 40) (.t 41), none, []⟩,
    ⟨some 43, .indexAddrS 1 (.t 39) (.t 42), none, []⟩,
    ⟨some 44, .load1 (.t 43), none, [17]⟩,
    ⟨some 45, .move (.t 0), none, []⟩,
    ⟨some 46, .move (.t 6), none, []⟩,
    ⟨some 47, .indexAddrS 1 (.t 45) (.t 46), none, []⟩,
    ⟨some 48, .load1 (.t 47), none, [17]⟩,
    ⟨some 49, .indexAddrS 1 (.t 33) (.t 34), none, []⟩,
    ⟨none, .store 1 (.t 49) (.t 44), none, []⟩,
    ⟨some 50, .indexAddrS 1 (.t 35) (.t 38), none, []⟩,
    ⟨none, .store 1 (.t 50) (.t 48), none, []⟩] .sink)
  (.region [⟨some 51, .move (.t 0), none, []⟩,
    ⟨some 52, .move (.t 7), none, []⟩,
    ⟨some 53, .move (.t 10), none, []⟩,
    ⟨some 54, .move (.t 6), none, []⟩,
    ⟨some 55, .callF 244 [(.t 51), (.t 52), (.t 53), (.t 54)], none, []⟩] .seq)))
  (.region [⟨some 31, .move (.t 10), none, []⟩,
    ⟨some 32, .bin .sub (.t 31) (.c (.int .i64 1)), none, []⟩,
    ⟨some 10, .move (.t 32), none, []⟩] .seq))))))))))⟩
/-- slices.breakPatternsOrdered[int] -/
def BF221 : AFunc := ⟨65, [], (.seq (.region [⟨some 11, .move (.t 2), none, []⟩,
    ⟨some 12, .move (.t 1), none, []⟩,
    ⟨some 13, .bin .sub (.t 11) (.t 12), none, []⟩,
    ⟨some 6, .move (.t 13), none, []⟩] .seq)
  (.seq (.region [⟨some 14, .move (.t 6), none, []⟩,
    ⟨some 15, .bin .geq (.t 14) (.c (.int .i64 8)), none, []⟩] .seq)
  (.cond (.t 15) (.seq (.region [⟨some 16, .move (.t 6), none, []⟩,
    ⟨some 17, .conv .u64 (.t 16), none, []⟩,
    ⟨some 7, .alloc 304 [(.int .u64 0)], none, []⟩,
    ⟨none, .store 1 (.t 7) (.t 17), none, []⟩] .seq)
  (.seq (.region [⟨some 18, .move (.t 6), none, []⟩,
    ⟨some 19, .callF 245 [(.t 18)], none, []⟩,
    ⟨some 8, .move (.t 19), none, []⟩] .seq)
  (.seq (.region [⟨some 20, .move (.t 1), none, []⟩,
    ⟨some 21, .move (.t 6), none, []⟩,
    ⟨some 22, .bin .quo (.t 21) (.c (.int .i64 4)), none, []⟩,
    ⟨some 23, .bin .mul (.t 22) (.c (.int .i64 2)), none, []⟩,
    ⟨some 24, .bin .add (.t 20) (.t 23), none, []⟩,
    ⟨some 25, .bin .sub (.t 24) (.c (.int .i64 1)), none, []⟩,
    ⟨some 9, .move (.t 25), none, []⟩] .seq)
  (.block 0 (.loop (.seq (.seq (.region [⟨some 26, .move (.t 9), none, []⟩,
    ⟨some 27, .move (.t 1), none, []⟩,
    ⟨some 28, .move (.t 6), none, []⟩,
    ⟨some 29, .bin .quo (.t 28) (.c (.int .i64 4)), none, []⟩,
    ⟨some 30, .bin .mul (.t 29) (.c (.int .i64 2)), none, []⟩,
    ⟨some 31, .bin .add (.t 27) (.t 30), none, []⟩,
    ⟨some 32, .bin .add (.t 31) (.c (.int .i64 1)), none, []⟩,
    ⟨some 33, .bin .leq (.t 26) (.t 32), none, []⟩] .seq)
  (.cond (.t 33) .skip
  (.exit 0)))
  (.seq (.block 1 (.seq (.region [⟨some 36, .callF 246 [(.t 7)], none, []⟩,
    ⟨some 37, .move (.t 8), none, []⟩,
    ⟨some 38, .bin .sub (.t 37) (.c (.int .u64 1)), none, []⟩,
    ⟨some 39, .bin .and (.t 36) (.t 38), none, []⟩,
    ⟨some 40, .conv .i64 (.t 39), none, []⟩,
    ⟨some 10, .move (.t 40), none, []⟩] .seq)
  (.seq (.seq (.region [⟨some 41, .move (.t 10), none, []⟩,
    ⟨some 42, .move (.t 6), none, []⟩,
    ⟨some 43, .bin .geq (.t 41) (.t 42), none, []⟩] .seq)
  (.cond (.t 43) (.region [⟨some 44, .move (.t 10), none, []⟩,
    ⟨some 45, .move (.t 6), none, []⟩,
    ⟨some 46, .bin .sub (.t 44) (.t 45), none, []⟩,
    ⟨some 10, .move (.t 46), none, []⟩] .seq)
  .skip))
  (.region [⟨some 47, .move (.t 0), none, []⟩,
    ⟨some 48, .move (.t 9), none, []⟩,
    ⟨some 49, .move (.t 0), none, []⟩,
    ⟨some 50, .move (.t 1), none, []⟩,
    ⟨some 51, .move (.t 10), none, []⟩,
    ⟨some 52, .bin .add (.t 50) (.t 51), none, []⟩,
    ⟨some 53, .move (.t 0), none, []⟩,
    ⟨some 54, .move (.t 1), none, []⟩,
    ⟨some 55, .move (.t 10), none, []⟩,
    ⟨some 56, .bin .add (.t 54) (.t 55), none, []⟩,
    ⟨some 57, .indexAddrS 1 (.t 53) (.t 56), none, []⟩,
    ⟨some 58, .load1 (.t 57), none, [17]⟩,
    ⟨some 59, .move (.t 0), none, []⟩,
    ⟨some 60, .move (.t 9), none, []⟩,
    ⟨some 61, .indexAddrS 1 (.t 59) (.t 60), none, []⟩,
    ⟨some 62, .load1 (.t 61), none, [17]⟩,
    ⟨some 63, .indexAddrS 1 (.t 47) (.t 48), none, []⟩,
    ⟨none, .store 1 (.t 63) (.t 58), none, []⟩,
    ⟨some 64, .indexAddrS 1 (.t 49) (.t 52), none, []⟩,
    ⟨none, .store 1 (.t 64) (.t 62), none, []⟩] .sink))))
  (.region [⟨some 34, .move (.t 9), none, []⟩,
    ⟨some 35, .bin .add (.t 34) (.c (.int .i64 1)), none, []⟩,
    ⟨some 9, .move (.t 35), none, []⟩] .seq))))))))
  .skip)))⟩
/-- slices.choosePivotOrdered[int] -/
def BF222 : AFunc := ⟨57, [.tmp 6, .tmp 7], (.seq (.region [⟨some 6, .move (.c (.int .i64 0)), none, []⟩,
    ⟨some 7, .move (.c (.int .i64 0)), none, []⟩] .seq)
  (.seq (.region [⟨some 13, .move (.t 2), none, []⟩,
    ⟨some 14, .move (.t 1), none, []⟩,
    ⟨some 15, .bin .sub (.t 13) (.t 14), none, []⟩,
    ⟨some 8, .move (.t 15), none, []⟩] .seq)
  (.seq (.region [⟨some 9, .alloc 3 [(.int .i64 0)], none, []⟩] .seq)
  (.seq (.region [⟨some 16, .move (.t 1), none, []⟩,
    ⟨some 17, .move (.t 8), none, []⟩,
    ⟨some 18, .bin .quo (.t 17) (.c (.int .i64 4)), none, []⟩,
    ⟨some 19, .bin .mul (.t 18) (.c (.int .i64 1)), none, []⟩,
    ⟨some 20, .bin .add (.t 16) (.t 19), none, []⟩,
    ⟨some 10, .move (.t 20), none, []⟩] .seq)
  (.seq (.region [⟨some 21, .move (.t 1), none, []⟩,
    ⟨some 22, .move (.t 8), none, []⟩,
    ⟨some 23, .bin .quo (.t 22) (.c (.int .i64 4)), none, []⟩,
    ⟨some 24, .bin .mul (.t 23) (.c (.int .i64 2)), none, []⟩,
    ⟨some 25, .bin .add (.t 21) (.t 24), none, []⟩,
    ⟨some 11, .move (.t 25), none, []⟩] .seq)
  (.seq (.region [⟨some 26, .move (.t 1), none, []⟩,
    ⟨some 27, .move (.t 8), none, []⟩,
    ⟨some 28, .bin .quo (.t 27) (.c (.int .i64 4)), none, []⟩,
    ⟨some 29, .bin .mul (.t 28) (.c (.int .i64 3)), none, []⟩,
    ⟨some 30, .bin .add (.t 26) (.t 29), none, []⟩,
    ⟨some 12, .move (.t 30), none, []⟩] .seq)
  (.seq (.seq (.region [⟨some 31, .move (.t 8), none, []⟩,
    ⟨some 32, .bin .geq (.t 31) (.c (.int .i64 8)), none, []⟩] .seq)
  (.cond (.t 32) (.seq (.seq (.region [⟨some 33, .move (.t 8), none, []⟩,
    ⟨some 34, .bin .geq (.t 33) (.c (.int .i64 50)), none, []⟩] .seq)
  (.cond (.t 34) (.seq (.region [⟨some 35, .move (.t 0), none, []⟩,
    ⟨some 36, .move (.t 10), none, []⟩,
    ⟨some 37, .callF 247 [(.t 35), (.t 36), (.t 9)], none, []⟩,
    ⟨some 10, .move (.t 37), none, []⟩] .seq)
  (.seq (.region [⟨some 38, .move (.t 0), none, []⟩,
    ⟨some 39, .move (.t 11), none, []⟩,
    ⟨some 40, .callF 247 [(.t 38), (.t 39), (.t 9)], none, []⟩,
    ⟨some 11, .move (.t 40), none, []⟩] .seq)
  (.region [⟨some 41, .move (.t 0), none, []⟩,
    ⟨some 42, .move (.t 12), none, []⟩,
    ⟨some 43, .callF 247 [(.t 41), (.t 42), (.t 9)], none, []⟩,
    ⟨some 12, .move (.t 43), none, []⟩] .seq)))
  .skip))
  (.region [⟨some 44, .move (.t 0), none, []⟩,
    ⟨some 45, .move (.t 10), none, []⟩,
    ⟨some 46, .move (.t 11), none, []⟩,
    ⟨some 47, .move (.t 12), none, []⟩,
    ⟨some 48, .callF 248 [(.t 44), (.t 45), (.t 46), (.t 47), (.t 9)], none, []⟩,
    ⟨some 11, .move (.t 48), none, []⟩] .seq))
  .skip))
  (.seq (.region [⟨some 49, .load1 (.t 9), none, []⟩] .seq)
  (.block 0 (.seq (.region [⟨some 52, .bin .eql (.t 49) (.c (.int .i64 0)), none, []⟩,
    ⟨some 51, .move (.t 52), none, []⟩] .seq)
  (.cond (.t 51) (.seq (.region [⟨some 53, .move (.t 11), none, []⟩,
    ⟨some 6, .move (.t 53), none, []⟩,
    ⟨some 7, .move (.c (.int .i64 1)), none, []⟩] .seq)
  .ret)
  (.seq (.region [⟨some 55, .bin .eql (.t 49) (.c (.int .i64 12)), none, []⟩,
    ⟨some 54, .move (.t 55), none, []⟩] .seq)
  (.cond (.t 54) (.seq (.region [⟨some 56, .move (.t 11), none, []⟩,
    ⟨some 6, .move (.t 56), none, []⟩,
    ⟨some 7, .move (.c (.int .i64 2)), none, []⟩] .seq)
  .ret)
  (.seq (.region [⟨some 50, .move (.t 11), none, []⟩,
    ⟨some 6, .move (.t 50), none, []⟩,
    ⟨some 7, .move (.c (.int .i64 0)), none, []⟩] .seq)
  .ret))))))))))))))⟩
/-- slices.reverseRangeOrdered[int] -/
def BF223 : AFunc := ⟨32, [], (.seq (.region [⟨some 8, .move (.t 1), none, []⟩,
    ⟨some 6, .move (.t 8), none, []⟩] .seq)
  (.seq (.region [⟨some 9, .move (.t 2), none, []⟩,
    ⟨some 10, .bin .sub (.t 9) (.c (.int .i64 1)), none, []⟩,
    ⟨some 7, .move (.t 10), none, []⟩] .seq)
  (.block 0 (.loop (.seq (.seq (.region [⟨some 11, .move (.t 6), none, []⟩,
    ⟨some 12, .move (.t 7), none, []⟩,
    ⟨some 13, .bin .lss (.t 11) (.t 12), none, []⟩] .seq)
  (.cond (.t 13) .skip
  (.exit 0)))
  (.block 1 (.seq (.region [⟨some 14, .move (.t 0), none, []⟩,
    ⟨some 15, .move (.t 6), none, []⟩,
    ⟨some 16, .move (.t 0), none, []⟩,
    ⟨some 17, .move (.t 7), none, []⟩,
    ⟨some 18, .move (.t 0), none, []⟩,
    ⟨some 19, .move (.t 7), none, []⟩,
    ⟨some 20, .indexAddrS 1 (.t 18) (.t 19), none, []⟩,
    ⟨some 21, .load1 (.t 20), none, [13]⟩,
    ⟨some 22, .move (.t 0), none, []⟩,
    ⟨some 23, .move (.t 6), none, []⟩,
    ⟨some 24, .indexAddrS 1 (.t 22) (.t 23), none, []⟩,
    ⟨some 25, .load1 (.t 24), none, [13]⟩,
    ⟨some 26, .indexAddrS 1 (.t 14) (.t 15), none, []⟩,
    ⟨none, .store 1 (.t 26) (.t 21), none, []⟩,
    ⟨some 27, .indexAddrS 1 (.t 16) (.t 17), none, []⟩,
    ⟨none, .store 1 (.t 27) (.t 25), none, []⟩] .sink)
  (.seq (.region [⟨some 28, .move (.t 6), none, []⟩,
    ⟨some 29, .bin .add (.t 28) (.c (.int .i64 1)), none, []⟩,
    ⟨some 6, .move (.t 29), none, []⟩] .seq)
  (.region [⟨some 30, .move (.t 7), none, []⟩,
    ⟨some 31, .bin .sub (.t 30) (.c (.int .i64 1)), none, []⟩,
    ⟨some 7, .move (.t 31), none, []⟩] .seq)))))))))⟩
/-- slices.partialInsertionSortOrdered[int] -/
def BF224 : AFunc := ⟨133, [.tmp 6], (.seq (.region [⟨some 6, .move (.c (.bool false)), none, []⟩] .seq)
  (.seq (.region [⟨some 11, .move (.t 1), none, []⟩,
    ⟨some 12, .bin .add (.t 11) (.c (.int .i64 1)), none, []⟩,
    ⟨some 7, .move (.t 12), none, []⟩] .seq)
  (.seq (.seq (.region [⟨some 8, .move (.c (.int .i64 0)), none, []⟩] .seq)
  (.block 0 (.loop (.seq (.seq (.region [⟨some 13, .move (.t 8), none, []⟩,
    ⟨some 14, .bin .lss (.t 13) (.c (.int .i64 5)), none, []⟩] .seq)
  (.cond (.t 14) .skip
  (.exit 0)))
  (.seq (.block 1 (.seq (.block 2 (.loop (.seq (.seq (.region [⟨some 17, .move (.t 7), none, []⟩,
    ⟨some 18, .move (.t 2), none, []⟩,
    ⟨some 19, .bin .lss (.t 17) (.t 18), none, []⟩,
    ⟨some 20, .move (.t 19), none, []⟩,
    ⟨some 21, .move (.t 0), some (20, true), []⟩,
    ⟨some 22, .move (.t 7), some (20, true), []⟩,
    ⟨some 23, .indexAddrS 1 (.t 21) (.t 22), some (20, true), []⟩,
    ⟨some 24, .load1 (.t 23), some (20, true), [13]⟩,
    ⟨some 25, .move (.t 0), some (20, true), []⟩,
    ⟨some 26, .move (.t 7), some (20, true), []⟩,
    ⟨some 27, .bin .sub (.t 26) (.c (.int .i64 1)), some (20, true), []⟩,
    ⟨some 28, .indexAddrS 1 (.t 25) (.t 27), some (20, true), []⟩,
    ⟨some 29, .load1 (.t 28), some (20, true), [13]⟩,
    ⟨some 30, .callF 225 [(.t 24), (.t 29)], some (20, true), []⟩,
    ⟨some 31, .un .not (.t 30), some (20, true), []⟩,
    ⟨some 32, .pick (.t 20) (.t 31) (.c (.bool false)), none, []⟩] .sink)
  (.cond (.t 32) .skip
  (.exit 2)))
  (.block 3 (.region [⟨some 33, .move (.t 7), none, []⟩,
    ⟨some 34, .bin .add (.t 33) (.c (.int .i64 1)), none, []⟩,
    ⟨some 7, .move (.t 34), none, []⟩] .seq)))))
  (.seq (.seq (.region [⟨some 35, .move (.t 7), none, []⟩,
    ⟨some 36, .move (.t 2), none, []⟩,
    ⟨some 37, .bin .eql (.t 35) (.t 36), none, []⟩] .seq)
  (.cond (.t 37) (.seq (.region [⟨some 6, .move (.c (.bool true)), none, []⟩] .seq)
  .ret)
  .skip))
  (.seq (.seq (.region [⟨some 38, .move (.t 2), none, []⟩,
    ⟨some 39, .move (.t 1), none, []⟩,
    ⟨some 40, .bin .sub (.t 38) (.t 39), none, []⟩,
    ⟨some 41, .bin .lss (.t 40) (.c (.int .i64 50)), none, []⟩] .seq)
  (.cond (.t 41) (.seq (.region [⟨some 6, .move (.c (.bool false)), none, []⟩] .seq)
  .ret)
  .skip))
  (.seq (.region [⟨some 42, .move (.t 0), none, []⟩,
    ⟨some 43, .move (.t 7), none, []⟩,
    ⟨some 44, .move (.t 0), none, []⟩,
    ⟨some 45, .move (.t 7), none, []⟩,
    ⟨some 46, .bin .sub (.t 45) (.c (.int .i64 1)), none, []⟩,
    ⟨some 47, .move (.t 0), none, []⟩,
    ⟨some 48, .move (.t 7), none, []⟩,
    ⟨some 49, .bin .sub (.t 48) (.c (.int .i64 1)), none, []⟩,
    ⟨some 50, .indexAddrS 1 (.t 47) (.t 49), none, []⟩,
    ⟨some 51, .load1 (.t 50), none, [15]⟩,
    ⟨some 52, .move (.t 0), none, []⟩,
    ⟨some 53, .move (.t 7), none, []⟩,
    ⟨some 54, .indexAddrS 1 (.t 52) (.t 53), none, []⟩,
    ⟨some 55, .load1 (.t 54), none, [15]⟩,
    ⟨some 56, .indexAddrS 1 (.t 42) (.t 43), none, []⟩,
    ⟨none, .store 1 (.t 56) (.t 51), none, []⟩,
    ⟨some 57, .indexAddrS 1 (.t 44) (.t 46), none, []⟩,
    ⟨none, .store 1 (.t 57) (.t 55), none, []⟩] .sink)
  (.seq (.seq (.region [⟨some 58, .move (.t 7), none, []⟩,
    ⟨some 59, .move (.t 1), none, []⟩,
    ⟨some 60, .bin .sub (.t 58) (.t 59), none, []⟩,
    ⟨some 61, .bin .geq (.t 60) (.c (.int .i64 2)), none, []⟩] .seq)
  (.cond (.t 61) (.seq (.region [⟨some 62, .move (.t 7), none, []⟩,
    ⟨some 63, .bin .sub (.t 62) (.c (.int .i64 1)), none, []⟩,
    ⟨some 9, .move (.t 63), none, []⟩] .seq)
  (.block 4 (.loop (.seq (.seq (.region [⟨some 64, .move (.t 9), none, []⟩,
    ⟨some 65, .bin .geq (.t 64) (.c (.int .i64 1)), none, []⟩] .seq)
  (.cond (.t 65) .skip
  (.exit 4)))
  (.seq (.block 5 (.seq (.seq (.region [⟨some 68, .move (.t 0), none, []⟩,
    ⟨some 69, .move (.t 9), none, []⟩,
    ⟨some 70, .indexAddrS 1 (.t 68) (.t 69), none, []⟩,
    ⟨some 71, .load1 (.t 70), none, [9]⟩,
    ⟨some 72, .move (.t 0), none, []⟩,
    ⟨some 73, .move (.t 9), none, []⟩,
    ⟨some 74, .bin .sub (.t 73) (.c (.int .i64 1)), none, []⟩,
    ⟨some 75, .indexAddrS 1 (.t 72) (.t 74), none, []⟩,
    ⟨some 76, .load1 (.t 75), none, [9]⟩,
    ⟨some 77, .callF 225 [(.t 71), (.t 76)], none, []⟩,
    ⟨some 78, .un .not (.t 77), none, []⟩] .sink)
  (.cond (.t 78) (.exit 4)
  .skip))
  (.region [⟨some 79, .move (.t 0), none, []⟩,
    ⟨some 80, .move (.t 9), none, []⟩,
    ⟨some 81, .move (.t 0), none, []⟩,
    ⟨some 82, .move (.t 9), none, []⟩,
    ⟨some 83, .bin .sub (.t 82) (.c (.int .i64 1)), none, []⟩,
    ⟨some 84, .move (.t 0), none, []⟩,
    ⟨some 85, .move (.t 9), none, []⟩,
    ⟨some 86, .bin .sub (.t 85) (.c (.int .i64 1)), none, []⟩,
    ⟨some 87, .indexAddrS 1 (.t 84) (.t 86), none, []⟩,
    ⟨some 88, .load1 (.t 87), none, [15]⟩,
    ⟨some 89, .move (.t 0), none, []⟩,
    ⟨some 90, .move (.t 9), none, []⟩,
    ⟨some 91, .indexAddrS 1 (.t 89) (.t 90), none, []⟩,
    ⟨some 92, .load1 (.t 91), none, [15]⟩,
    ⟨some 93, .indexAddrS 1 (.t 79) (.t 80), none, []⟩,
    ⟨none, .store 1 (.t 93) (.t 88), none, []⟩,
    ⟨some 94, .indexAddrS 1 (.t 81) (.t 83), none, []⟩,
    ⟨none, .store 1 (.t 94) (.t 92), none, []⟩] .sink)))
  (.region [⟨some 66, .move (.t 9), none, []⟩,
    ⟨some 67, .bin .sub (.t 66) (.c (.int .i64 1)), none, []⟩,
    ⟨some 9, .move (.t 67), none, []⟩] .seq))))))
  .skip))
  (.seq (.region [⟨some 95, .move (.t 2), none, []⟩,
    ⟨some 96, .move (.t 7), none, []⟩,
    ⟨some 97, .bin .sub (.t 95) (.t 96), none, []⟩,
    ⟨some 98, .bin .geq (.t 97) (.c (.int .i64 2)), none, []⟩] .seq)
  (.cond (.t 98) (.seq (.region [⟨some 99, .move (.t 7), none, []⟩,
    ⟨some 100, .bin .add (.t 99) (.c (.int .i64 1)), none, []⟩,
    ⟨some 10, .move (.t 100), none, []⟩] .seq)
  (.block 6 (.loop (.seq (.seq (.region [⟨some 101, .move (.t 10), none, []⟩,
    ⟨some 102, .move (.t 2), none, []⟩,
    ⟨some 103, .bin .lss (.t 101) (.t 102), none, []⟩] .seq)
  (.cond (.t 103) .skip
  (.exit 6)))
  (.seq (.block 7 (.seq (.seq (.region [⟨some 106, .move (.t 0), none, []⟩,
    ⟨some 107, .move (.t 10), none, []⟩,
    ⟨some 108, .indexAddrS 1 (.t 106) (.t 107), none, []⟩,
    ⟨some 109, .load1 (.t 108), none, [9]⟩,
    ⟨some 110, .move (.t 0), none, []⟩,
    ⟨some 111, .move (.t 10), none, []⟩,
    ⟨some 112, .bin .sub (.t 111) (.c (.int .i64 1)), none, []⟩,
    ⟨some 113, .indexAddrS 1 (.t 110) (.t 112), none, []⟩,
    ⟨some 114, .load1 (.t 113), none, [9]⟩,
    ⟨some 115, .callF 225 [(.t 109), (.t 114)], none, []⟩,
    ⟨some 116, .un .not (.t 115), none, []⟩] .sink)
  (.cond (.t 116) (.exit 6)
  .skip))
  (.region [⟨some 117, .move (.t 0), none, []⟩,
    ⟨some 118, .move (.t 10), none, []⟩,
    ⟨some 119, .move (.t 0), none, []⟩,
    ⟨some 120, .move (.t 10), none, []⟩,
    ⟨some 121, .bin .sub (.t 120) (.c (.int .i64 1)), none, []⟩,
    ⟨some 122, .move (.t 0), none, []⟩,
    ⟨some 123, .move (.t 10), none, []⟩,
    ⟨some 124, .bin .sub (.t 123) (.c (.int .i64 1)), none, []⟩,
    ⟨some 125, .indexAddrS 1 (.t 122) (.t 124), none, []⟩,
    ⟨some 126, .load1 (.t 125), none, [15]⟩,
    ⟨some 127, .move (.t 0), none, []⟩,
    ⟨some 128, .move (.t 10), none, []⟩,
    ⟨some 129, .indexAddrS 1 (.t 127) (.t 128), none, []⟩,
    ⟨some 130, .load1 (.t 129), none, [15]⟩,
    ⟨some 131, .indexAddrS 1 (.t 117) (.t 118), none, []⟩,
    ⟨none, .store 1 (.t 131) (.t 126), none, []⟩,
    ⟨some 132, .indexAddrS 1 (.t 119) (.t 121), none, []⟩,
    ⟨none, .store 1 (.t 132) (.t 130), none, []⟩] .sink)))
  (.region [⟨some 104, .move (.t 10), none, []⟩,
    ⟨some 105, .bin .add (.t 104) (.c (.int .i64 1)), none, []⟩,
    ⟨some 10, .move (.t 105), none, []⟩] .seq))))))
  .skip))))))))
  (.region [⟨some 15, .move (.t 8), none, []⟩,
    ⟨some 16, .bin .add (.t 15) (.c (.int .i64 1)), none, []⟩,
    ⟨some 8, .move (.t 16), none, []⟩] .seq))))))
  (.seq (.region [⟨some 6, .move (.c (.bool false)), none, []⟩] .seq)
  .ret))))⟩
/-- cmp.Less[int] -/
def BF225 : AFunc := ⟨17, [.tmp 4], (.seq (.region [⟨some 4, .move (.c (.bool false)), none, []⟩] .seq)
  (.seq (.region [⟨some 5, .move (.t 0), none, []⟩,
    ⟨some 6, .callF 137 [(.t 5)], none, []⟩,
    ⟨some 7, .move (.t 6), none, []⟩,
    ⟨some 8, .move (.t 1), some (7, true), []⟩,
    ⟨some 9, .callF 137 [(.t 8)], some (7, true), []⟩,
    ⟨some 10, .un .not (.t 9), some (7, true), []⟩,
    ⟨some 11, .pick (.t 7) (.t 10) (.c (.bool false)), none, []⟩,
    ⟨some 12, .move (.t 11), none, []⟩,
    ⟨some 13, .move (.t 0), some (12, false), []⟩,
    ⟨some 14, .move (.t 1), some (12, false), []⟩,
    ⟨some 15, .bin .lss (.t 13) (.t 14), some (12, false), []⟩,
    ⟨some 16, .pick (.t 12) (.c (.bool true)) (.t 15), none, []⟩,
    ⟨some 4, .move (.t 16), none, []⟩] .seq)
  .ret))⟩
/-- slices.partitionEqualOrdered[int] -/
def BF226 : AFunc := ⟨84, [.tmp 8], (.seq (.region [⟨some 8, .move (.c (.int .i64 0)), none, []⟩] .seq)
  (.seq (.region [⟨some 11, .move (.t 0), none, []⟩,
    ⟨some 12, .move (.t 1), none, []⟩,
    ⟨some 13, .move (.t 0), none, []⟩,
    ⟨some 14, .move (.t 3), none, []⟩,
    ⟨some 15, .move (.t 0), none, []⟩,
    ⟨some 16, .move (.t 3), none, []⟩,
    ⟨some 17, .indexAddrS 1 (.t 15) (.t 16), none, []⟩,
    ⟨some 18, .load1 (.t 17), none, [13]⟩,
    ⟨some 19, .move (.t 0), none, []⟩,
    ⟨some 20, .move (.t 1), none, []⟩,
    ⟨some 21, .indexAddrS 1 (.t 19) (.t 20), none, []⟩,
    ⟨some 22, .load1 (.t 21), none, [13]⟩,
    ⟨some 23, .indexAddrS 1 (.t 11) (.t 12), none, []⟩,
    ⟨none, .store 1 (.t 23) (.t 18), none, []⟩,
    ⟨some 24, .indexAddrS 1 (.t 13) (.t 14), none, []⟩,
    ⟨none, .store 1 (.t 24) (.t 22), none, []⟩] .sink)
  (.seq (.region [⟨some 25, .move (.t 1), none, []⟩,
    ⟨some 26, .bin .add (.t 25) (.c (.int .i64 1)), none, []⟩,
    ⟨some 27, .move (.t 2), none, []⟩,
    ⟨some 28, .bin .sub (.t 27) (.c (.int .i64 1)), none, []⟩,
    ⟨some 9, .move (.t 26), none, []⟩,
    ⟨some 10, .move (.t 28), none, []⟩] .seq)
  (.seq (.block 0 (.loop (.block 1 (.seq (.block 2 (.loop (.seq (.seq (.region [⟨some 29, .move (.t 9), none, []⟩,
    ⟨some 30, .move (.t 10), none, []⟩,
    ⟨some 31, .bin .leq (.t 29) (.t 30), none, []⟩,
    ⟨some 32, .move (.t 31), none, []⟩,
    ⟨some 33, .move (.t 0), some (32, true), []⟩,
    ⟨some 34, .move (.t 1), some (32, true), []⟩,
    ⟨some 35, .indexAddrS 1 (.t 33) (.t 34), some (32, true), []⟩,
    ⟨some 36, .load1 (.t 35), some (32, true), [12]⟩,
    ⟨some 37, .move (.t 0), some (32, true), []⟩,
    ⟨some 38, .move (.t 9), some (32, true), []⟩,
    ⟨some 39, .indexAddrS 1 (.t 37) (.t 38), some (32, true), []⟩,
    ⟨some 40, .load1 (.t 39), some (32, true), [12]⟩,
    ⟨some 41, .callF 225 [(.t 36), (.t 40)], some (32, true), []⟩,
    ⟨some 42, .un .not (.t 41), some (32, true), []⟩,
    ⟨some 43, .pick (.t 32) (.t 42) (.c (.bool false)), none, []⟩] .sink)
  (.cond (.t 43) .skip
  (.exit 2)))
  (.block 3 (.region [⟨some 44, .move (.t 9), none, []⟩,
    ⟨some 45, .bin .add (.t 44) (.c (.int .i64 1)), none, []⟩,
    ⟨some 9, .move (.t 45), none, []⟩] .seq)))))
  (.seq (.block 4 (.loop (.seq (.seq (.region [⟨some 46, .move (.t 9), none, []⟩,
    ⟨some 47, .move (.t 10), none, []⟩,
    ⟨some 48, .bin .leq (.t 46) (.t 47), none, []⟩,
    ⟨some 49, .move (.t 48), none, []⟩,
    ⟨some 50, .move (.t 0), some (49, true), []⟩,
    ⟨some 51, .move (.t 1), some (49, true), []⟩,
    ⟨some 52, .indexAddrS 1 (.t 50) (.t 51), some (49, true), []⟩,
    ⟨some 53, .load1 (.t 52), some (49, true), [12]⟩,
    ⟨some 54, .move (.t 0), some (49, true), []⟩,
    ⟨some 55, .move (.t 10), some (49, true), []⟩,
    ⟨some 56, .indexAddrS 1 (.t 54) (.t 55), some (49, true), []⟩,
    ⟨some 57, .load1 (.t 56), some (49, true), [12]⟩,
    ⟨some 58, .callF 225 [(.t 53), (.t 57)], some (49, true), []⟩,
    ⟨some 59, .pick (.t 49) (.t 58) (.c (.bool false)), none, []⟩] .sink)
  (.cond (.t 59) .skip
  (.exit 4)))
  (.block 5 (.region [⟨some 60, .move (.t 10), none, []⟩,
    ⟨some 61, .bin .sub (.t 60) (.c (.int .i64 1)), none, []⟩,
    ⟨some 10, .move (.t 61), none, []⟩] .seq)))))
  (.seq (.seq (.region [⟨some 62, .move (.t 9), none, []⟩,
    ⟨some 63, .move (.t 10), none, []⟩,
    ⟨some 64, .bin .gtr (.t 62) (.t 63), none, []⟩] .seq)
  (.cond (.t 64) (.exit 0)
  .skip))
  (.seq (.region [⟨some 65, .move (.t 0), none, []⟩,
    ⟨some 66, .move (.t 9), none, []⟩,
    ⟨some 67, .move (.t 0), none, []⟩,
    ⟨some 68, .move (.t 10), none, []⟩,
    ⟨some 69, .move (.t 0), none, []⟩,
    ⟨some 70, .move (.t 10), none, []⟩,
    ⟨some 71, .indexAddrS 1 (.t 69) (.t 70), none, []⟩,
    ⟨some 72, .load1 (.t 71), none, [13]⟩,
    ⟨some 73, .move (.t 0), none, []⟩,
    ⟨some 74, .move (.t 9), none, []⟩,
    ⟨some 75, .indexAddrS 1 (.t 73) (.t 74), none, []⟩,
    ⟨some 76, .load1 (.t 75), none, [13]⟩,
    ⟨some 77, .indexAddrS 1 (.t 65) (.t 66), none, []⟩,
    ⟨none, .store 1 (.t 77) (.t 72), none, []⟩,
    ⟨some 78, .indexAddrS 1 (.t 67) (.t 68), none, []⟩,
    ⟨none, .store 1 (.t 78) (.t 76), none, []⟩] .sink)
  (.seq (.region [⟨some 79, .move (.t 9), none, []⟩,
    ⟨some 80, .bin .add (.t 79) (.c (.int .i64 1)), none, []⟩,
    ⟨some 9, .move (.t 80), none, []⟩] .seq)
  (.region [⟨some 81, .move (.t 10), none, []⟩,
    ⟨some 82, .bin .sub (.t 81) (.c (.int .i64 1)), none, []⟩,
    ⟨some 10, .move (.t 82), none, []⟩] .seq)))))))))
  (.seq (.region [⟨some 83, .move (.t 9), none, []⟩,
    ⟨some 8, .move (.t 83), none, []⟩] .seq)
  .ret)))))⟩
/-- slices.partitionOrdered[int] -/
def BF227 : AFunc := ⟨168, [.tmp 8, .tmp 9], (.seq (.region [⟨some 8, .move (.c (.int .i64 0)), none, []⟩,
    ⟨some 9, .move (.c (.bool false)), none, []⟩] .seq)
  (.seq (.region [⟨some 12, .move (.t 0), none, []⟩,
    ⟨some 13, .move (.t 1), none, []⟩,
    ⟨some 14, .move (.t 0), none, []⟩,
    ⟨some 15, .move (.t 3), none, []⟩,
    ⟨some 16, .move (.t 0), none, []⟩,
    ⟨some 17, .move (.t 3), none, []⟩,
    ⟨some 18, .indexAddrS 1 (.t 16) (.t 17), none, []⟩,
    ⟨some 19, .load1 (.t 18), none, [13]⟩,
    ⟨some 20, .move (.t 0), none, []⟩,
    ⟨some 21, .move (.t 1), none, []⟩,
    ⟨some 22, .indexAddrS 1 (.t 20) (.t 21), none, []⟩,
    ⟨some 23, .load1 (.t 22), none, [13]⟩,
    ⟨some 24, .indexAddrS 1 (.t 12) (.t 13), none, []⟩,
    ⟨none, .store 1 (.t 24) (.t 19), none, []⟩,
    ⟨some 25, .indexAddrS 1 (.t 14) (.t 15), none, []⟩,
    ⟨none, .store 1 (.t 25) (.t 23), none, []⟩] .sink)
  (.seq (.region [⟨some 26, .move (.t 1), none, []⟩,
    ⟨some 27, .bin .add (.t 26) (.c (.int .i64 1)), none, []⟩,
    ⟨some 28, .move (.t 2), none, []⟩,
    ⟨some 29, .bin .sub (.t 28) (.c (.int .i64 1)), none, []⟩,
    ⟨some 10, .move (.t 27), none, []⟩,
    ⟨some 11, .move (.t 29), none, []⟩] .seq)
  (.seq (.block 0 (.loop (.seq (.seq (.region [⟨some 30, .move (.t 10), none, []⟩,
    ⟨some 31, .move (.t 11), none, []⟩,
    ⟨some 32, .bin .leq (.t 30) (.t 31), none, []⟩,
    ⟨some 33, .move (.t 32), none, []⟩,
    ⟨some 34, .move (.t 0), some (33, true), []⟩,
    ⟨some 35, .move (.t 10), some (33, true), []⟩,
    ⟨some 36, .indexAddrS 1 (.t 34) (.t 35), some (33, true), []⟩,
    ⟨some 37, .load1 (.t 36), some (33, true), [12]⟩,
    ⟨some 38, .move (.t 0), some (33, true), []⟩,
    ⟨some 39, .move (.t 1), some (33, true), []⟩,
    ⟨some 40, .indexAddrS 1 (.t 38) (.t 39), some (33, true), []⟩,
    ⟨some 41, .load1 (.t 40), some (33, true), [12]⟩,
    ⟨some 42, .callF 225 [(.t 37), (.t 41)], some (33, true), []⟩,
    ⟨some 43, .pick (.t 33) (.t 42) (.c (.bool false)), none, []⟩] .sink)
  (.cond (.t 43) .skip
  (.exit 0)))
  (.block 1 (.region [⟨some 44, .move (.t 10), none, []⟩,
    ⟨some 45, .bin .add (.t 44) (.c (.int .i64 1)), none, []⟩,
    ⟨some 10, .move (.t 45), none, []⟩] .seq)))))
  (.seq (.block 2 (.loop (.seq (.seq (.region [⟨some 46, .move (.t 10), none, []⟩,
    ⟨some 47, .move (.t 11), none, []⟩,
    ⟨some 48, .bin .leq (.t 46) (.t 47), none, []⟩,
    ⟨some 49, .move (.t 48), none, []⟩,
    ⟨some 50, .move (.t 0), some (49, true), []⟩,
    ⟨some 51, .move (.t 11), some (49, true), []⟩,
    ⟨some 52, .indexAddrS 1 (.t 50) (.t 51), some (49, true), []⟩,
    ⟨some 53, .load1 (.t 52), some (49, true), [12]⟩,
    ⟨some 54, .move (.t 0), some (49, true), []⟩,
    ⟨some 55, .move (.t 1), some (49, true), []⟩,
    ⟨some 56, .indexAddrS 1 (.t 54) (.t 55), some (49, true), []⟩,
    ⟨some 57, .load1 (.t 56), some (49, true), [12]⟩,
    ⟨some 58, .callF 225 [(.t 53), (.t 57)], some (49, true), []⟩,
    ⟨some 59, .un .not (.t 58), some (49, true), []⟩,
    ⟨some 60, .pick (.t 49) (.t 59) (.c (.bool false)), none, []⟩] .sink)
  (.cond (.t 60) .skip
  (.exit 2)))
  (.block 3 (.region [⟨some 61, .move (.t 11), none, []⟩,
    ⟨some 62, .bin .sub (.t 61) (.c (.int .i64 1)), none, []⟩,
    ⟨some 11, .move (.t 62), none, []⟩] .seq)))))
  (.seq (.seq (.region [⟨some 63, .move (.t 10), none, []⟩,
    ⟨some 64, .move (.t 11), none, []⟩,
    ⟨some 65, .bin .gtr (.t 63) (.t 64), none, []⟩] .seq)
  (.cond (.t 65) (.seq (.region [⟨some 66, .move (.t 0), none, []⟩,
    ⟨some 67, .move (.t 11), none, []⟩,
    ⟨some 68, .move (.t 0), none, []⟩,
    ⟨some 69, .move (.t 1), none, []⟩,
    ⟨some 70, .move (.t 0), none, []⟩,
    ⟨some 71, .move (.t 1), none, []⟩,
    ⟨some 72, .indexAddrS 1 (.t 70) (.t 71), none, []⟩,
    ⟨some 73, .load1 (.t 72), none, [13]⟩,
    ⟨some 74, .move (.t 0), none, []⟩,
    ⟨some 75, .move (.t 11), none, []⟩,
    ⟨some 76, .indexAddrS 1 (.t 74) (.t 75), none, []⟩,
    ⟨some 77, .load1 (.t 76), none, [13]⟩,
    ⟨some 78, .indexAddrS 1 (.t 66) (.t 67), none, []⟩,
    ⟨none, .store 1 (.t 78) (.t 73), none, []⟩,
    ⟨some 79, .indexAddrS 1 (.t 68) (.t 69), none, []⟩,
    ⟨none, .store 1 (.t 79) (.t 77), none, []⟩] .sink)
  (.seq (.region [⟨some 80, .move (.t 11), none, []⟩,
    ⟨some 8, .move (.t 80), none, []⟩,
    ⟨some 9, .move (.c (.bool true)), none, []⟩] .seq)
  .ret))
  .skip))
  (.seq (.region [⟨some 81, .move (.t 0), none, []⟩,
    ⟨some 82, .move (.t 10), none, []⟩,
    ⟨some 83, .move (.t 0), none, []⟩,
    ⟨some 84, .move (.t 11), none, []⟩,
    ⟨some 85, .move (.t 0), none, []⟩,
    ⟨some 86, .move (.t 11), none, []⟩,
    ⟨some 87, .indexAddrS 1 (.t 85) (.t 86), none, []⟩,
    ⟨some 88, .load1 (.t 87), none, [13]⟩,
    ⟨some 89, .move (.t 0), none, []⟩,
    ⟨some 90, .move (.t 10), none, []⟩,
    ⟨some 91, .indexAddrS 1 (.t 89) (.t 90), none, []⟩,
    ⟨some 92, .load1 (.t 91), none, [13]⟩,
    ⟨some 93, .indexAddrS 1 (.t 81) (.t 82), none, []⟩,
    ⟨none, .store 1 (.t 93) (.t 88), none, []⟩,
    ⟨some 94, .indexAddrS 1 (.t 83) (.t 84), none, []⟩,
    ⟨none, .store 1 (.t 94) (.t 92), none, []⟩] .sink)
  (.seq (.region [⟨some 95, .move (.t 10), none, []⟩,
    ⟨some 96, .bin .add (.t 95) (.c (.int .i64 1)), none, []⟩,
    ⟨some 10, .move (.t 96), none, []⟩] .seq)
  (.seq (.region [⟨some 97, .move (.t 11), none, []⟩,
    ⟨some 98, .bin .sub (.t 97) (.c (.int .i64 1)), none, []⟩,
    ⟨some 11, .move (.t 98), none, []⟩] .seq)
  (.seq (.block 4 (.loop (.block 5 (.seq (.block 6 (.loop (.seq (.seq (.region [⟨some 99, .move (.t 10), none, []⟩,
    ⟨some 100, .move (.t 11), none, []⟩,
    ⟨some 101, .bin .leq (.t 99) (.t 100), none, []⟩,
    ⟨some 102, .move (.t 101), none, []⟩,
    ⟨some 103, .move (.t 0), some (102, true), []⟩,
    ⟨some 104, .move (.t 10), some (102, true), []⟩,
    ⟨some 105, .indexAddrS 1 (.t 103) (.t 104), some (102, true), []⟩,
    ⟨some 106, .load1 (.t 105), some (102, true), [12]⟩,
    ⟨some 107, .move (.t 0), some (102, true), []⟩,
    ⟨some 108, .move (.t 1), some (102, true), []⟩,
    ⟨some 109, .indexAddrS 1 (.t 107) (.t 108), some (102, true), []⟩,
    ⟨some 110, .load1 (.t 109), some (102, true), [12]⟩,
    ⟨some 111, .callF 225 [(.t 106), (.t 110)], some (102, true), []⟩,
    ⟨some 112, .pick (.t 102) (.t 111) (.c (.bool false)), none, []⟩] .sink)
  (.cond (.t 112) .skip
  (.exit 6)))
  (.block 7 (.region [⟨some 113, .move (.t 10), none, []⟩,
    ⟨some 114, .bin .add (.t 113) (.c (.int .i64 1)), none, []⟩,
    ⟨some 10, .move (.t 114), none, []⟩] .seq)))))
  (.seq (.block 8 (.loop (.seq (.seq (.region [⟨some 115, .move (.t 10), none, []⟩,
    ⟨some 116, .move (.t 11), none, []⟩,
    ⟨some 117, .bin .leq (.t 115) (.t 116), none, []⟩,
    ⟨some 118, .move (.t 117), none, []⟩,
    ⟨some 119, .move (.t 0), some (118, true), []⟩,
    ⟨some 120, .move (.t 11), some (118, true), []⟩,
    ⟨some 121, .indexAddrS 1 (.t 119) (.t 120), some (118, true), []⟩,
    ⟨some 122, .load1 (.t 121), some (118, true), [12]⟩,
    ⟨some 123, .move (.t 0), some (118, true), []⟩,
    ⟨some 124, .move (.t 1), some (118, true), []⟩,
    ⟨some 125, .indexAddrS 1 (.t 123) (.t 124), some (118, true), []⟩,
    ⟨some 126, .load1 (.t 125), some (118, true), [12]⟩,
    ⟨some 127, .callF 225 [(.t 122), (.t 126)], some (118, true), []⟩,
    ⟨some 128, .un .not (.t 127), some (118, true), []⟩,
    ⟨some 129, .pick (.t 118) (.t 128) (.c (.bool false)), none, []⟩] .sink)
  (.cond (.t 129) .skip
  (.exit 8)))
  (.block 9 (.region [⟨some 130, .move (.t 11), none, []⟩,
    ⟨some 131, .bin .sub (.t 130) (.c (.int .i64 1)), none, []⟩,
    ⟨some 11, .move (.t 131), none, []⟩] .seq)))))
  (.seq (.seq (.region [⟨some 132, .move (.t 10), none, []⟩,
    ⟨some 133, .move (.t 11), none, []⟩,
    ⟨some 134, .bin .gtr (.t 132) (.t 133), none, []⟩] .seq)
  (.cond (.t 134) (.exit 4)
  .skip))
  (.seq (.region [⟨some 135, .move (.t 0), none, []⟩,
    ⟨some 136, .move (.t 10), none, []⟩,
    ⟨some 137, .move (.t 0), none, []⟩,
    ⟨some 138, .move (.t 11), none, []⟩,
    ⟨some 139, .move (.t 0), none, []⟩,
    ⟨some 140, .move (.t 11), none, []⟩,
    ⟨some 141, .indexAddrS 1 (.t 139) (.t 140), none, []⟩,
    ⟨some 142, .load1 (.t 141), none, [13]⟩,
    ⟨some 143, .move (.t 0), none, []⟩,
    ⟨some 144, .move (.t 10), none, []⟩,
    ⟨some 145, .indexAddrS 1 (.t 143) (.t 144), none, []⟩,
    ⟨some 146, .load1 (.t 145), none, [13]⟩,
    ⟨some 147, .indexAddrS 1 (.t 135) (.t 136), none, []⟩,
    ⟨none, .store 1 (.t 147) (.t 142), none, []⟩,
    ⟨some 148, .indexAddrS 1 (.t 137) (.t 138), none, []⟩,
    ⟨none, .store 1 (.t 148) (.t 146), none, []⟩] .sink)
  (.seq (.region [⟨some 149, .move (.t 10), none, []⟩,
    ⟨some 150, .bin .add (.t 149) (.c (.int .i64 1)), none, []⟩,
    ⟨some 10, .move (.t 150), none, []⟩] .seq)
  (.region [⟨some 151, .move (.t 11), none, []⟩,
    ⟨some 152, .bin .sub (.t 151) (.c (.int .i64 1)), none, []⟩,
    ⟨some 11, .move (.t 152), none, []⟩] .seq)))))))))
  (.seq (.region [⟨some 153, .move (.t 0), none, []⟩,
    ⟨some 154, .move (.t 11), none, []⟩,
    ⟨some 155, .move (.t 0), none, []⟩,
    ⟨some 156, .move (.t 1), none, []⟩,
    ⟨some 157, .move (.t 0), none, []⟩,
    ⟨some 158, .move (.t 1), none, []⟩,
    ⟨some 159, .indexAddrS 1 (.t 157) (.t 158), none, []⟩,
    ⟨some 160, .load1 (.t 159), none, [13]⟩,
    ⟨some 161, .move (.t 0), none, []⟩,
    ⟨some 162, .move (.t 11), none, []⟩,
    ⟨some 163, .indexAddrS 1 (.t 161) (.t 162), none, []⟩,
    ⟨some 164, .load1 (.t 163), none, [13]⟩,
    ⟨some 165, .indexAddrS 1 (.t 153) (.t 154), none, []⟩,
    ⟨none, .store 1 (.t 165) (.t 160), none, []⟩,
    ⟨some 166, .indexAddrS 1 (.t 155) (.t 156), none, []⟩,
    ⟨none, .store 1 (.t 166) (.t 164), none, []⟩] .sink)
  (.seq (.region [⟨some 167, .move (.t 11), none, []⟩,
    ⟨some 8, .move (.t 167), none, []⟩,
    ⟨some 9, .move (.c (.bool false)), none, []⟩] .seq)
  .ret))))))))))))⟩
/-- math/bits.Len32 -/
def BF228 : AFunc := ⟨19, [.tmp 2], (.seq (.region [⟨some 2, .move (.c (.int .i64 0)), none, []⟩] .seq)
  (.seq (.seq (.region [⟨some 3, .move (.t 0), none, []⟩,
    ⟨some 4, .bin .geq (.t 3) (.c (.int .u32 65536)), none, []⟩] .seq)
  (.cond (.t 4) (.seq (.region [⟨some 5, .move (.t 0), none, []⟩,
    ⟨some 6, .bin .shr (.t 5) (.c (.int .u64 16)), none, []⟩,
    ⟨some 0, .move (.t 6), none, []⟩] .seq)
  (.region [⟨some 2, .move (.c (.int .i64 16)), none, []⟩] .seq))
  .skip))
  (.seq (.seq (.region [⟨some 7, .move (.t 0), none, []⟩,
    ⟨some 8, .bin .geq (.t 7) (.c (.int .u32 256)), none, []⟩] .seq)
  (.cond (.t 8) (.seq (.region [⟨some 9, .move (.t 0), none, []⟩,
    ⟨some 10, .bin .shr (.t 9) (.c (.int .u64 8)), none, []⟩,
    ⟨some 0, .move (.t 10), none, []⟩] .seq)
  (.region [⟨some 11, .move (.t 2), none, []⟩,
    ⟨some 12, .bin .add (.t 11) (.c (.int .i64 8)), none, []⟩,
    ⟨some 2, .move (.t 12), none, []⟩] .seq))
  .skip))
  (.seq (.region [⟨some 13, .move (.t 2), none, []⟩,
    ⟨some 14, .move (.t 0), none, []⟩,
    ⟨some 15, .conv .u8 (.t 14), none, []⟩,
    ⟨some 16, .indexStr (.c (.str ⟨#[0, 1, 2, 2, 3, 3, 3, 3, 4, 4, 4, 4, 4, 4, 4, 4, 5, 5, 5, 5, 5, 5, 5, 5, 5, 5, 5, 5, 5, 5, 5, 5, 6, 6, 6, 6, 6, 6, 6, 6, 6, 6, 6, 6, 6, 6, 6, 6, 6, 6, 6, 6, 6, 6, 6, 6, 6, 6, 6, 6, 6, 6, 6, 6, 7, 7, 7, 7, 7, 7, 7, 7, 7, 7, 7, 7, 7, 7, 7, 7, 7, 7, 7, 7, 7, 7, 7, 7, 7, 7, 7, 7, 7, 7, 7, 7, 7, 7, 7, 7, 7, 7, 7, 7, 7, 7, 7, 7, 7, 7, 7, 7, 7, 7, 7, 7, 7, 7, 7, 7, 7, 7, 7, 7, 7, 7, 7, 7, 8, 8, 8, 8, 8, 8, 8, 8, 8, 8, 8, 8, 8, 8, 8, 8, 8, 8, 8, 8, 8, 8, 8, 8, 8, 8, 8, 8, 8, 8, 8, 8, 8, 8, 8, 8, 8, 8, 8, 8, 8, 8, 8, 8, 8, 8, 8, 8, 8, 8, 8, 8, 8, 8, 8, 8, 8, 8, 8, 8, 8, 8, 8, 8, 8, 8, 8, 8, 8, 8, 8, 8, 8, 8, 8, 8, 8, 8, 8, 8, 8, 8, 8, 8, 8, 8, 8, 8, 8, 8, 8, 8, 8, 8, 8, 8, 8, 8, 8, 8, 8, 8, 8, 8, 8, 8, 8, 8, 8, 8, 8, 8, 8, 8, 8, 8, 8, 8, 8, 8, 8, 8, 8, 8, 8, 8, 8, 8]⟩)) (.t 15), none, []⟩,
    ⟨some 17, .conv .i64 (.t 16), none, []⟩,
    ⟨some 18, .bin .add (.t 13) (.t 17), none, []⟩,
    ⟨some 2, .move (.t 18), none, []⟩] .seq)
  .ret))))⟩
/-- math/bits.Len64 -/
def BF229 : AFunc := ⟨25, [.tmp 2], (.seq (.region [⟨some 2, .move (.c (.int .i64 0)), none, []⟩] .seq)
  (.seq (.seq (.region [⟨some 3, .move (.t 0), none, []⟩,
    ⟨some 4, .bin .geq (.t 3) (.c (.int .u64 4294967296)), none, []⟩] .seq)
  (.cond (.t 4) (.seq (.region [⟨some 5, .move (.t 0), none, []⟩,
    ⟨some 6, .bin .shr (.t 5) (.c (.int .u64 32)), none, []⟩,
    ⟨some 0, .move (.t 6), none, []⟩] .seq)
  (.region [⟨some 2, .move (.c (.int .i64 32)), none, []⟩] .seq))
  .skip))
  (.seq (.seq (.region [⟨some 7, .move (.t 0), none, []⟩,
    ⟨some 8, .bin .geq (.t 7) (.c (.int .u64 65536)), none, []⟩] .seq)
  (.cond (.t 8) (.seq (.region [⟨some 9, .move (.t 0), none, []⟩,
    ⟨some 10, .bin .shr (.t 9) (.c (.int .u64 16)), none, []⟩,
    ⟨some 0, .move (.t 10), none, []⟩] .seq)
  (.region [⟨some 11, .move (.t 2), none, []⟩,
    ⟨some 12, .bin .add (.t 11) (.c (.int .i64 16)), none, []⟩,
    ⟨some 2, .move (.t 12), none, []⟩] .seq))
  .skip))
  (.seq (.seq (.region [⟨some 13, .move (.t 0), none, []⟩,
    ⟨some 14, .bin .geq (.t 13) (.c (.int .u64 256)), none, []⟩] .seq)
  (.cond (.t 14) (.seq (.region [⟨some 15, .move (.t 0), none, []⟩,
    ⟨some 16, .bin .shr (.t 15) (.c (.int .u64 8)), none, []⟩,
    ⟨some 0, .move (.t 16), none, []⟩] .seq)
  (.region [⟨some 17, .move (.t 2), none, []⟩,
    ⟨some 18, .bin .add (.t 17) (.c (.int .i64 8)), none, []⟩,
    ⟨some 2, .move (.t 18), none, []⟩] .seq))
  .skip))
  (.seq (.region [⟨some 19, .move (.t 2), none, []⟩,
    ⟨some 20, .move (.t 0), none, []⟩,
    ⟨some 21, .conv .u8 (.t 20), none, []⟩,
    ⟨some 22, .indexStr (.c (.str ⟨#[0, 1, 2, 2, 3, 3, 3, 3, 4, 4, 4, 4, 4, 4, 4, 4, 5, 5, 5, 5, 5, 5, 5, 5, 5, 5, 5, 5, 5, 5, 5, 5, 6, 6, 6, 6, 6, 6, 6, 6, 6, 6, 6, 6, 6, 6, 6, 6, 6, 6, 6, 6, 6, 6, 6, 6, 6, 6, 6, 6, 6, 6, 6, 6, 7, 7, 7, 7, 7, 7, 7, 7, 7, 7, 7, 7, 7, 7, 7, 7, 7, 7, 7, 7, 7, 7, 7, 7, 7, 7, 7, 7, 7, 7, 7, 7, 7, 7, 7, 7, 7, 7, 7, 7, 7, 7, 7, 7, 7, 7, 7, 7, 7, 7, 7, 7, 7, 7, 7, 7, 7, 7, 7, 7, 7, 7, 7, 7, 8, 8, 8, 8, 8, 8, 8, 8, 8, 8, 8, 8, 8, 8, 8, 8, 8, 8, 8, 8, 8, 8, 8, 8, 8, 8, 8, 8, 8, 8, 8, 8, 8, 8, 8, 8, 8, 8, 8, 8, 8, 8, 8, 8, 8, 8, 8, 8, 8, 8, 8, 8, 8, 8, 8, 8, 8, 8, 8, 8, 8, 8, 8, 8, 8, 8, 8, 8, 8, 8, 8, 8, 8, 8, 8, 8, 8, 8, 8, 8, 8, 8, 8, 8, 8, 8, 8, 8, 8, 8, 8, 8, 8, 8, 8, 8, 8, 8, 8, 8, 8, 8, 8, 8, 8, 8, 8, 8, 8, 8, 8, 8, 8, 8, 8, 8, 8, 8, 8, 8, 8, 8, 8, 8, 8, 8, 8, 8]⟩)) (.t 21), none, []⟩,
    ⟨some 23, .conv .i64 (.t 22), none, []⟩,
    ⟨some 24, .bin .add (.t 19) (.t 23), none, []⟩,
    ⟨some 2, .move (.t 24), none, []⟩] .seq)
  .ret)))))⟩
/-- anabranch/oper.only$1 -/
def BF241 : AFunc := ⟨6, [], (.region [⟨some 3, .move (.t 0), none, []⟩,
    ⟨some 4, .loadN 6 (.t 1), none, []⟩,
    ⟨some 5, .callV (.t 3) [(.t 4)], none, []⟩] .seq)⟩
/-- slices.swapRangeCmpFunc[anabranch/api.Entry] -/
def BF242 : AFunc := ⟨38, [], (.seq (.region [⟨some 10, .move (.c (.int .i64 0)), none, []⟩] .seq)
  (.block 0 (.loop (.seq (.seq (.region [⟨some 11, .move (.t 10), none, []⟩,
    ⟨some 12, .move (.t 3), none, []⟩,
    ⟨some 13, .bin .lss (.t 11) (.t 12), none, []⟩] .seq)
  (.cond (.t 13) .skip
  (.exit 0)))
  (.seq (.block 1 (.region [⟨some 16, .move (.t 0), none, []⟩,
    ⟨some 17, .move (.t 1), none, []⟩,
    ⟨some 18, .move (.t 10), none, []⟩,
    ⟨some 19, .bin .add (.t 17) (.t 18), none, []⟩,
    ⟨some 20, .move (.t 0), none, []⟩,
    ⟨some 21, .move (.t 2), none, []⟩,
    ⟨some 22, .move (.t 10), none, []⟩,
    ⟨some 23, .bin .add (.t 21) (.t 22), none, []⟩,
    ⟨some 24, .move (.t 0), none, []⟩,
    ⟨some 25, .move (.t 2), none, []⟩,
    ⟨some 26, .move (.t 10), none, []⟩,
    ⟨some 27, .bin .add (.t 25) (.t 26), none, []⟩,
    ⟨some 28, .indexAddrS 10 (.t 24) (.t 27), none, []⟩,
    ⟨some 29, .loadN 10 (.t 28), none, [21]⟩,
    ⟨some 30, .move (.t 0), none, []⟩,
    ⟨some 31, .move (.t 1), none, []⟩,
    ⟨some 32, .move (.t 10), none, []⟩,
    ⟨some 33, .bin .add (.t 31) (.t 32), none, []⟩,
    ⟨some 34, .indexAddrS 10 (.t 30) (.t 33), none, []⟩,
    ⟨some 35, .loadN 10 (.t 34), none, [21]⟩,
    ⟨some 36, .indexAddrS 10 (.t 16) (.t 19), none, []⟩,
    ⟨none, .store 10 (.t 36) (.t 29), none, []⟩,
    ⟨some 37, .indexAddrS 10 (.t 20) (.t 23), none, []⟩,
    ⟨none, .store 10 (.t 37) (.t 35), none, []⟩] .sink))
  (.region [⟨some 14, .move (.t 10), none, []⟩,
    ⟨some 15, .bin .add (.t 14) (.c (.int .i64 1)), none, []⟩,
    ⟨some 10, .move (.t 15), none, []⟩] .seq))))))⟩
/-- slices.Index[[]int,int] -/
def BF243 : AFunc := ⟨19, [.tmp 4], (.seq (.region [⟨some 4, .move (.c (.int .i64 0)), none, []⟩] .seq)
  (.seq (.seq (.region [⟨some 6, .move (.t 0), none, []⟩,
    ⟨some 7, .len .sl (.t 6), none, []⟩,
    ⟨some 8, .move (.c (.int .i64 0)), none, []⟩] .seq)
  (.block 0 (.loop (.seq (.region [⟨some 9, .bin .lss (.t 8) (.t 7), none, []⟩] .seq)
  (.seq (.cond (.t 9) .skip
  (.exit 0))
  (.seq (.block 1 (.seq (.region [⟨some 10, .move (.t 8), none, []⟩,
    ⟨some 5, .move (.t 10), none, []⟩] .seq)
  (.seq (.region [⟨some 11, .move (.t 1), none, []⟩,
    ⟨some 12, .move (.t 0), none, []⟩,
    ⟨some 13, .move (.t 5), none, []⟩,
    ⟨some 14, .indexAddrS 1 (.t 12) (.t 13), none, []⟩,
    ⟨some 15, .load1 (.t 14), none, []⟩,
    ⟨some 16, .bin .eql (.t 11) (.t 15), none, []⟩] .seq)
  (.cond (.t 16) (.seq (.region [⟨some 17, .move (.t 5), none, []⟩,
    ⟨some 4, .move (.t 17), none, []⟩] .seq)
  .ret)
  .skip))))
  (.region [⟨some 18, .bin .add (.t 8) (.c (.int .i64 1)), none, []⟩,
    ⟨some 8, .move (.t 18), none, []⟩] .seq)))))))
  (.seq (.region [⟨some 4, .move (.c (.int .i64 (-1))), none, []⟩] .seq)
  .ret)))⟩
/-- slices.siftDownOrdered[int] -/
def BF244 : AFunc := ⟨76, [], (.seq (.region [⟨some 10, .move (.t 1), none, []⟩,
    ⟨some 8, .move (.t 10), none, []⟩] .seq)
  (.block 0 (.loop (.block 1 (.seq (.region [⟨some 11, .move (.t 8), none, []⟩,
    ⟨some 12, .bin .mul (.c (.int .i64 2)) (.t 11), none, []⟩,
    ⟨some 13, .bin .add (.t 12) (.c (.int .i64 1)), none, []⟩,
    ⟨some 9, .move (.t 13), none, []⟩] .seq)
  (.seq (.seq (.region [⟨some 14, .move (.t 9), none, []⟩,
    ⟨some 15, .move (.t 2), none, []⟩,
    ⟨some 16, .bin .geq (.t 14) (.t 15), none, []⟩] .seq)
  (.cond (.t 16) (.exit 0)
  .skip))
  (.seq (.seq (.region [⟨some 17, .move (.t 9), none, []⟩,
    ⟨some 18, .bin .add (.t 17) (.c (.int .i64 1)), none, []⟩,
    ⟨some 19, .move (.t 2), none, []⟩,
    ⟨some 20, .bin .lss (.t 18) (.t 19), none, []⟩,
    ⟨some 21, .move (.t 20), none, []⟩,
    ⟨some 22, .move (.t 0), some (21, true), []⟩,
    ⟨some 23, .move (.t 3), some (21, true), []⟩,
    ⟨some 24, .move (.t 9), some (21, true), []⟩,
    ⟨some 25, .bin .add (.t 23) (.t 24), some (21, true), []⟩,
    ⟨some 26, .indexAddrS 1 (.t 22) (.t 25), some (21, true), []⟩,
    ⟨some 27, .load1 (.t 26), some (21, true), [18]⟩,
    ⟨some 28, .move (.t 0), some (21, true), []⟩,
    ⟨some 29, .move (.t 3), some (21, true), []⟩,
    ⟨some 30, .move (.t 9), some (21, true), []⟩,
    ⟨some 31, .bin .add (.t 29) (.t 30), some (21, true), []⟩,
    ⟨some 32, .bin .add (.t 31) (.c (.int .i64 1)), some (21, true), []⟩,
    ⟨some 33, .indexAddrS 1 (.t 28) (.t 32), some (21, true), []⟩,
    ⟨some 34, .load1 (.t 33), some (21, true), [18]⟩,
    ⟨some 35, .callF 225 [(.t 27), (.t 34)], some (21, true), []⟩,
    ⟨some 36, .pick (.t 21) (.t 35) (.c (.bool false)), none, []⟩] .sink)
  (.cond (.t 36) (.region [⟨some 37, .move (.t 9), none, []⟩,
    ⟨some 38, .bin .add (.t 37) (.c (.int .i64 1)), none, []⟩,
    ⟨some 9, .move (.t 38), none, []⟩] .seq)
  .skip))
  (.seq (.seq (.region [⟨some 39, .move (.t 0), none, []⟩,
    ⟨some 40, .move (.t 3), none, []⟩,
    ⟨some 41, .move (.t 8), none, []⟩,
    ⟨some 42, .bin .add (.t 40) (.t 41), none, []⟩,
    ⟨some 43, .indexAddrS 1 (.t 39) (.t 42), none, []⟩,
    ⟨some 44, .load1 (.t 43), none, [12]⟩,
    ⟨some 45, .move (.t 0), none, []⟩,
    ⟨some 46, .move (.t 3), none, []⟩,
    ⟨some 47, .move (.t 9), none, []⟩,
    ⟨some 48, .bin .add (.t 46) (.t 47), none, []⟩,
    ⟨some 49, .indexAddrS 1 (.t 45) (.t 48), none, []⟩,
    ⟨some 50, .load1 (.t 49), none, [12]⟩,
    ⟨some 51, .callF 225 [(.t 44), (.t 50)], none, []⟩,
    ⟨some 52, .un .not (.t 51), none, []⟩] .sink)
  (.cond (.t 52) .ret
  .skip))
  (.seq (.region [⟨some 53, .move (.t 0), none, []⟩,
    ⟨some 54, .move (.t 3), none, []⟩,
    ⟨some 55, .move (.t 8), none, []⟩,
    ⟨some 56, .bin .add (.t 54) (.t 55), none, []⟩,
    ⟨some 57, .move (.t 0), none, []⟩,
    ⟨some 58, .move (.t 3), none, []⟩,
    ⟨some 59, .move (.t 9), none, []⟩,
    ⟨some 60, .bin .add (.t 58) (.t 59), none, []⟩,
    ⟨some 61, .move (.t 0), none, []⟩,
    ⟨some 62, .move (.t 3), none, []⟩,
    ⟨some 63, .move (.t 9), none, []⟩,
    ⟨some 64, .bin .add (.t 62) (.t 63), none, []⟩,
    ⟨some 65, .indexAddrS 1 (.t 61) (.t 64), none, []⟩,
    ⟨some 66, .load1 (.t 65), none, [21]⟩,
    ⟨some 67, .move (.t 0), none, []⟩,
    ⟨some 68, .move (.t 3), none, []⟩,
    ⟨some 69, .move (.t 8), none, []⟩,
    ⟨some 70, .bin .add (.t 68) (.t 69), none, []⟩,
    ⟨some 71, .indexAddrS 1 (.t 67) (.t 70), none, []⟩,
    ⟨some 72, .load1 (.t 71), none, [21]⟩,
    ⟨some 73, .indexAddrS 1 (.t 53) (.t 56), none, []⟩,
    ⟨none, .store 1 (.t 73) (.t 66), none, []⟩,
    ⟨some 74, .indexAddrS 1 (.t 57) (.t 60), none, []⟩,
    ⟨none, .store 1 (.t 74) (.t 72), none, []⟩] .sink)
  (.region [⟨some 75, .move (.t 9), none, []⟩,
    ⟨some 8, .move (.t 75), none, []⟩] .seq))))))))))⟩
/-- slices.nextPowerOfTwo -/
def BF245 : AFunc := ⟨7, [.tmp 2], (.seq (.region [⟨some 2, .move (.c (.int .u64 0)), none, []⟩] .seq)
  (.seq (.region [⟨some 3, .move (.t 0), none, []⟩,
    ⟨some 4, .conv .u64 (.t 3), none, []⟩,
    ⟨some 5, .callF 182 [(.t 4)], none, []⟩,
    ⟨some 6, .bin .shl (.c (.int .u64 1)) (.t 5), none, []⟩,
    ⟨some 2, .move (.t 6), none, []⟩] .seq)
  .ret))⟩
/-- (*slices.xorshift).Next -/
def BF246 : AFunc := ⟨33, [.tmp 2], (.seq (.region [⟨some 2, .move (.c (.int .u64 0)), none, []⟩] .seq)
  (.seq (.region [⟨some 3, .move (.t 0), none, []⟩,
    ⟨some 4, .nilCheck (.t 3), none, []⟩,
    ⟨some 5, .load1 (.t 4), none, [9]⟩,
    ⟨some 6, .move (.t 0), none, []⟩,
    ⟨some 7, .nilCheck (.t 6), none, []⟩,
    ⟨some 8, .load1 (.t 7), none, [9]⟩,
    ⟨some 9, .bin .shl (.t 8) (.c (.int .u64 13)), none, []⟩,
    ⟨some 10, .bin .xor (.t 5) (.t 9), none, []⟩,
    ⟨some 11, .nilCheck (.t 3), none, []⟩,
    ⟨none, .store 1 (.t 11) (.t 10), none, []⟩] .sink)
  (.seq (.region [⟨some 12, .move (.t 0), none, []⟩,
    ⟨some 13, .nilCheck (.t 12), none, []⟩,
    ⟨some 14, .load1 (.t 13), none, [9]⟩,
    ⟨some 15, .move (.t 0), none, []⟩,
    ⟨some 16, .nilCheck (.t 15), none, []⟩,
    ⟨some 17, .load1 (.t 16), none, [9]⟩,
    ⟨some 18, .bin .shr (.t 17) (.c (.int .u64 7)), none, []⟩,
    ⟨some 19, .bin .xor (.t 14) (.t 18), none, []⟩,
    ⟨some 20, .nilCheck (.t 12), none, []⟩,
    ⟨none, .store 1 (.t 20) (.t 19), none, []⟩] .sink)
  (.seq (.region [⟨some 21, .move (.t 0), none, []⟩,
    ⟨some 22, .nilCheck (.t 21), none, []⟩,
    ⟨some 23, .load1 (.t 22), none, [9]⟩,
    ⟨some 24, .move (.t 0), none, []⟩,
    ⟨some 25, .nilCheck (.t 24), none, []⟩,
    ⟨some 26, .load1 (.t 25), none, [9]⟩,
    ⟨some 27, .bin .shl (.t 26) (.c (.int .u64 17)), none, []⟩,
    ⟨some 28, .bin .xor (.t 23) (.t 27), none, []⟩,
    ⟨some 29, .nilCheck (.t 21), none, []⟩,
    ⟨none, .store 1 (.t 29) (.t 28), none, []⟩] .sink)
  (.seq (.region [⟨some 30, .move (.t 0), none, []⟩,
    ⟨some 31, .nilCheck (.t 30), none, []⟩,
    ⟨some 32, .load1 (.t 31), none, []⟩,
    ⟨some 2, .move (.t 32), none, []⟩] .seq)
  .ret)))))⟩
/-- slices.medianAdjacentOrdered[int] -/
def BF247 : AFunc := ⟨15, [.tmp 6], (.seq (.region [⟨some 6, .move (.c (.int .i64 0)), none, []⟩] .seq)
  (.seq (.region [⟨some 7, .move (.t 0), none, []⟩,
    ⟨some 8, .move (.t 1), none, []⟩,
    ⟨some 9, .bin .sub (.t 8) (.c (.int .i64 1)), none, []⟩,
    ⟨some 10, .move (.t 1), none, []⟩,
    ⟨some 11, .move (.t 1), none, []⟩,
    ⟨some 12, .bin .add (.t 11) (.c (.int .i64 1)), none, []⟩,
    ⟨some 13, .move (.t 2), none, []⟩,
    ⟨some 14, .callF 248 [(.t 7), (.t 9), (.t 10), (.t 12), (.t 13)], none, []⟩,
    ⟨some 6, .move (.t 14), none, []⟩] .seq)
  .ret))⟩
/-- slices.medianOrdered[int] -/
def BF248 : AFunc := ⟨36, [.tmp 10], (.seq (.region [⟨some 10, .move (.c (.int .i64 0)), none, []⟩] .seq)
  (.seq (.region [⟨some 12, .move (.t 0), none, []⟩,
    ⟨some 13, .move (.t 1), none, []⟩,
    ⟨some 14, .move (.t 2), none, []⟩,
    ⟨some 15, .move (.t 4), none, []⟩,
    ⟨some 16, .callF 264 [(.t 12), (.t 13), (.t 14), (.t 15)], none, []⟩,
    ⟨some 11, .move (.t 16), none, []⟩,
    ⟨some 17, .extract (.t 11) 0, none, []⟩,
    ⟨some 18, .extract (.t 11) 1, none, []⟩,
    ⟨some 1, .move (.t 17), none, []⟩,
    ⟨some 2, .move (.t 18), none, []⟩] .seq)
  (.seq (.region [⟨some 20, .move (.t 0), none, []⟩,
    ⟨some 21, .move (.t 2), none, []⟩,
    ⟨some 22, .move (.t 3), none, []⟩,
    ⟨some 23, .move (.t 4), none, []⟩,
    ⟨some 24, .callF 264 [(.t 20), (.t 21), (.t 22), (.t 23)], none, []⟩,
    ⟨some 19, .move (.t 24), none, []⟩,
    ⟨some 25, .extract (.t 19) 0, none, []⟩,
    ⟨some 26, .extract (.t 19) 1, none, []⟩,
    ⟨some 2, .move (.t 25), none, []⟩,
    ⟨some 3, .move (.t 26), none, []⟩] .seq)
  (.seq (.region [⟨some 28, .move (.t 0), none, []⟩,
    ⟨some 29, .move (.t 1), none, []⟩,
    ⟨some 30, .move (.t 2), none, []⟩,
    ⟨some 31, .move (.t 4), none, []⟩,
    ⟨some 32, .callF 264 [(.t 28), (.t 29), (.t 30), (.t 31)], none, []⟩,
    ⟨some 27, .move (.t 32), none, []⟩,
    ⟨some 33, .extract (.t 27) 0, none, []⟩,
    ⟨some 34, .extract (.t 27) 1, none, []⟩,
    ⟨some 1, .move (.t 33), none, []⟩,
    ⟨some 2, .move (.t 34), none, []⟩] .seq)
  (.seq (.region [⟨some 35, .move (.t 2), none, []⟩,
    ⟨some 10, .move (.t 35), none, []⟩] .seq)
  .ret)))))⟩
/-- slices.order2Ordered[int] -/
def BF264 : AFunc := ⟨28, [.tmp 8, .tmp 9], (.seq (.region [⟨some 8, .move (.c (.int .i64 0)), none, []⟩,
    ⟨some 9, .move (.c (.int .i64 0)), none, []⟩] .seq)
  (.seq (.seq (.region [⟨some 10, .move (.t 0), none, []⟩,
    ⟨some 11, .move (.t 2), none, []⟩,
    ⟨some 12, .indexAddrS 1 (.t 10) (.t 11), none, []⟩,
    ⟨some 13, .load1 (.t 12), none, [8]⟩,
    ⟨some 14, .move (.t 0), none, []⟩,
    ⟨some 15, .move (.t 1), none, []⟩,
    ⟨some 16, .indexAddrS 1 (.t 14) (.t 15), none, []⟩,
    ⟨some 17, .load1 (.t 16), none, [8]⟩,
    ⟨some 18, .callF 225 [(.t 13), (.t 17)], none, []⟩] .sink)
  (.cond (.t 18) (.seq (.region [⟨some 19, .move (.t 3), none, []⟩,
    ⟨some 20, .nilCheck (.t 19), none, []⟩,
    ⟨some 21, .load1 (.t 20), none, []⟩,
    ⟨some 22, .bin .add (.t 21) (.c (.int .i64 1)), none, []⟩,
    ⟨some 23, .nilCheck (.t 19), none, []⟩,
    ⟨none, .store 1 (.t 23) (.t 22), none, []⟩] .seq)
  (.seq (.region [⟨some 24, .move (.t 2), none, []⟩,
    ⟨some 25, .move (.t 1), none, []⟩,
    ⟨some 8, .move (.t 24), none, []⟩,
    ⟨some 9, .move (.t 25), none, []⟩] .seq)
  .ret))
  .skip))
  (.seq (.region [⟨some 26, .move (.t 1), none, []⟩,
    ⟨some 27, .move (.t 2), none, []⟩,
    ⟨some 8, .move (.t 26), none, []⟩,
    ⟨some 9, .move (.t 27), none, []⟩] .seq)
  .ret)))⟩def Btab : Tr AFunc := (.node none (.node none (.node (some BF3) (.node none (.node (some BF15) (.node none .nil (.node (some BF95) (.node (some BF159) .nil .nil) (.node (some BF223) .nil .nil))) (.node (some BF47) (.node (some BF79) (.node (some BF143) .nil .nil) .nil) (.node (some BF111) (.node (some BF175) .nil .nil) .nil))) (.node none (.node (some BF39) .nil (.node (some BF103) (.node (some BF167) .nil .nil) .nil)) (.node (some BF55) (.node (some BF87) (.node (some BF151) .nil .nil) (.node (some BF215) .nil .nil)) (.node none (.node (some BF183) .nil .nil) (.node (some BF247) .nil .nil))))) (.node (some BF11) (.node (some BF19) (.node none .nil (.node (some BF99) (.node (some BF163) .nil .nil) (.node (some BF227) .nil .nil))) (.node (some BF51) (.node (some BF83) (.node (some BF147) .nil .nil) (.node (some BF211) .nil .nil)) (.node none (.node (some BF179) .nil .nil) (.node (some BF243) .nil .nil)))) (.node none (.node (some BF43) (.node none (.node (some BF139) .nil .nil) .nil) (.node (some BF107) (.node (some BF171) .nil .nil) .nil)) (.node none (.node (some BF91) (.node (some BF155) .nil .nil) (.node (some BF219) .nil .nil)) .nil)))) (.node none (.node (some BF9) (.node (some BF17) (.node none .nil (.node (some BF97) (.node (some BF161) .nil .nil) (.node (some BF225) .nil .nil))) (.node (some BF49) (.node (some BF81) (.node (some BF145) .nil .nil) (.node (some BF209) .nil .nil)) (.node (some BF113) (.node (some BF177) .nil .nil) (.node (some BF241) .nil .nil)))) (.node none (.node (some BF41) (.node none (.node (some BF137) .nil .nil) .nil) (.node (some BF105) (.node (some BF169) .nil .nil) .nil)) (.node (some BF57) (.node (some BF89) (.node (some BF153) .nil .nil) (.node (some BF217) .nil .nil)) .nil))) (.node (some BF13) (.node none (.node none .nil (.node (some BF101) (.node (some BF165) .nil .nil) (.node (some BF229) .nil .nil))) (.node (some BF53) (.node (some BF85) (.node (some BF149) .nil .nil) (.node (some BF213) .nil .nil)) (.node none (.node (some BF181) .nil .nil) (.node (some BF245) .nil .nil)))) (.node none (.node (some BF45) (.node (some BF77) (.node (some BF141) .nil .nil) .nil) (.node (some BF109) (.node (some BF173) .nil .nil) .nil)) (.node none (.node (some BF93) (.node (some BF157) .nil .nil) (.node (some BF221) .nil .nil)) .nil))))) (.node none (.node none (.node none (.node (some BF16) (.node none .nil (.node (some BF96) (.node (some BF160) .nil .nil) (.node (some BF224) .nil .nil))) (.node (some BF48) (.node (some BF80) (.node (some BF144) .nil .nil) (.node (some BF208) .nil .nil)) (.node (some BF112) (.node (some BF176) .nil .nil) .nil))) (.node none (.node (some BF40) (.node none (.node none (.node (some BF264) .nil .nil) .nil) .nil) (.node (some BF104) (.node (some BF168) .nil .nil) .nil)) (.node (some BF56) (.node (some BF88) (.node (some BF152) .nil .nil) (.node (some BF216) .nil .nil)) (.node (some BF120) (.node (some BF184) .nil .nil) (.node (some BF248) .nil .nil))))) (.node (some BF12) (.node (some BF20) (.node none .nil (.node (some BF100) (.node (some BF164) .nil .nil) (.node (some BF228) .nil .nil))) (.node (some BF52) (.node (some BF84) (.node (some BF148) .nil .nil) (.node (some BF212) .nil .nil)) (.node none (.node (some BF180) .nil .nil) (.node (some BF244) .nil .nil)))) (.node none (.node (some BF44) (.node (some BF76) (.node (some BF140) .nil .nil) .nil) (.node (some BF108) (.node (some BF172) .nil .nil) .nil)) (.node none (.node (some BF92) (.node (some BF156) .nil .nil) (.node (some BF220) .nil .nil)) .nil)))) (.node none (.node (some BF10) (.node (some BF18) (.node none .nil (.node (some BF98) (.node (some BF162) .nil .nil) (.node (some BF226) .nil .nil))) (.node (some BF50) (.node (some BF82) (.node (some BF146) .nil .nil) (.node (some BF210) .nil .nil)) (.node none (.node (some BF178) .nil .nil) (.node (some BF242) .nil .nil)))) (.node none (.node (some BF42) (.node none (.node (some BF138) .nil .nil) .nil) (.node (some BF106) .nil .nil)) (.node (some BF58) (.node (some BF90) (.node (some BF154) .nil .nil) (.node (some BF218) .nil .nil)) .nil))) (.node (some BF14) (.node (some BF22) (.node none .nil (.node (some BF102) (.node (some BF166) .nil .nil) .nil)) (.node (some BF54) (.node (some BF86) (.node (some BF150) .nil .nil) (.node (some BF214) .nil .nil)) (.node none (.node (some BF182) .nil .nil) (.node (some BF246) .nil .nil)))) (.node none (.node (some BF46) (.node (some BF78) (.node (some BF142) .nil .nil) .nil) (.node (some BF110) (.node (some BF174) .nil .nil) .nil)) (.node none (.node (some BF94) (.node (some BF158) .nil .nil) (.node (some BF222) .nil .nil)) .nil))))))

end Go.Eng
