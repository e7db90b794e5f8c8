/- The abstract code of the functions that the statement reaches, part 2. Without conditions. -/
import Derived.Test.YtjimocghfojhcabGreatDkT1
namespace Go.Eng
set_option maxRecDepth 100000
set_option linter.unusedVariables false
set_option linter.unusedSimpArgs false
/-- math/bits.Len -/
def DF182 : AFunc := ⟨8, [.tmp 2], (.seq (.region [⟨some 2, .move (.c (.int .i64 0)), none, []⟩] .seq)
  (.seq (.cond (.c (.bool false)) (.seq (.region [⟨some 3, .move (.t 0), none, []⟩,
    ⟨some 4, .conv .u32 (.t 3), none, []⟩,
    ⟨some 5, .callF 228 [(.t 4)], none, []⟩,
    ⟨some 2, .move (.t 5), none, []⟩] .seq)
  .ret)
  .skip)
  (.seq (.region [⟨some 6, .move (.t 0), none, []⟩,
    ⟨some 7, .callF 229 [(.t 6)], none, []⟩,
    ⟨some 2, .move (.t 7), none, []⟩] .seq)
  .ret)))⟩
/-- slices.IndexFunc[[]int,int] -/
def DF183 : AFunc := ⟨19, [.tmp 4], (.seq (.region [⟨some 4, .move (.c (.int .i64 0)), none, []⟩] .seq)
  (.seq (.seq (.region [⟨some 6, .move (.t 0), none, []⟩,
    ⟨some 7, .len .sl (.t 6), none, []⟩,
    ⟨some 8, .move (.c (.int .i64 0)), none, []⟩] .seq)
  (.block 0 (.loop (.seq (.region [⟨some 9, .bin .lss (.t 8) (.t 7), none, []⟩] .seq)
  (.seq (.cond (.t 9) .skip
  (.exit 0))
  (.seq (.block 1 (.seq (.region [⟨some 10, .move (.t 8), none, []⟩,
    ⟨some 5, .move (.t 10), none, []⟩] .seq)
  (.seq (.region [⟨some 11, .move (.t 1), none, []⟩,
    ⟨some 12, .move (.t 0), none, []⟩,
    ⟨some 13, .move (.t 5), none, []⟩,
    ⟨some 14, .indexAddrS 1 (.t 12) (.t 13), none, []⟩,
    ⟨some 15, .load1 (.t 14), none, []⟩,
    ⟨some 16, .callV (.t 11) [(.t 15)], none, []⟩] .seq)
  (.cond (.t 16) (.seq (.region [⟨some 17, .move (.t 5), none, []⟩,
    ⟨some 4, .move (.t 17), none, []⟩] .seq)
  .ret)
  .skip))))
  (.region [⟨some 18, .bin .add (.t 8) (.c (.int .i64 1)), none, []⟩,
    ⟨some 8, .move (.t 18), none, []⟩] .seq)))))))
  (.seq (.region [⟨some 4, .move (.c (.int .i64 (-1))), none, []⟩] .seq)
  .ret)))⟩
/-- anabranch/oper.Apply -/
def DF185 : AFunc := ⟨63, [.tmp 4], (.seq (.region [⟨some 3, .box 43 (.t 1), none, []⟩,
    ⟨some 4, .move (.c .sl0), none, []⟩] .seq)
  (.seq (.region [⟨some 13, .loadN 6 (.t 3), none, []⟩,
    ⟨some 14, .buildSlice 43 1 6 [(.int .u32 0), (.int .i64 0), (.int .i64 0), (.int .u8 0), (.bool false), (.bool false)] [(0, 6, (.t 13))], none, []⟩,
    ⟨some 5, .move (.t 14), none, []⟩] .seq)
  (.seq (.seq (.region [⟨some 15, .move (.t 0), none, []⟩,
    ⟨some 16, .len .sl (.t 15), none, []⟩,
    ⟨some 17, .move (.c (.int .i64 0)), none, []⟩] .seq)
  (.block 0 (.loop (.seq (.region [⟨some 18, .bin .lss (.t 17) (.t 16), none, []⟩] .seq)
  (.seq (.cond (.t 18) .skip
  (.exit 0))
  (.seq (.block 1 (.seq (.region [⟨some 19, .indexAddrS 4 (.t 15) (.t 17), none, []⟩,
    ⟨some 20, .loadN 4 (.t 19), none, []⟩,
    ⟨some 7, .alloc 84 [(.int .i64 0), (.int .i64 0), (.int .i64 0), (.int .i64 0)], none, []⟩,
    ⟨none, .store 4 (.t 7) (.t 20), none, []⟩] .seq)
  (.seq (.seq (.region [⟨some 21, .loadN 4 (.t 7), none, []⟩,
    ⟨some 22, .callF 140 [(.t 21)], none, []⟩,
    ⟨some 23, .bin .neq (.t 22) (.c (.int .i64 0)), none, []⟩,
    ⟨some 24, .move (.t 23), none, []⟩,
    ⟨some 25, .loadN 4 (.t 7), some (24, false), []⟩,
    ⟨some 26, .callF 49 [(.t 25)], some (24, false), []⟩,
    ⟨some 27, .bin .neq (.t 26) (.c (.int .i64 0)), some (24, false), []⟩,
    ⟨some 28, .pick (.t 24) (.c (.bool true)) (.t 27), none, []⟩] .seq)
  (.cond (.t 28) (.exit 1)
  .skip))
  (.seq (.region [⟨some 29, .callF 93 [], none, []⟩,
    ⟨some 30, .fieldAddr 0 (.t 7), none, []⟩,
    ⟨some 31, .load1 (.t 30), none, [0, 6]⟩,
    ⟨some 32, .index 8 3 true (.t 29) (.t 31), none, []⟩,
    ⟨some 33, .field 2 1 false (.t 32), none, []⟩,
    ⟨some 8, .move (.t 33), none, []⟩] .sink)
  (.seq (.region [⟨some 9, .alloc 31 [.sl0], none, []⟩] .seq)
  (.seq (.seq (.region [⟨some 34, .move (.t 5), none, []⟩,
    ⟨some 35, .len .sl (.t 34), none, []⟩,
    ⟨some 36, .move (.c (.int .i64 0)), none, []⟩] .seq)
  (.block 2 (.loop (.seq (.region [⟨some 37, .bin .lss (.t 36) (.t 35), none, []⟩] .seq)
  (.seq (.cond (.t 37) .skip
  (.exit 2))
  (.seq (.block 3 (.seq (.region [⟨some 38, .indexAddrS 6 (.t 34) (.t 36), none, []⟩,
    ⟨some 39, .loadN 6 (.t 38), none, []⟩,
    ⟨some 11, .alloc 43 [(.int .u32 0), (.int .i64 0), (.int .i64 0), (.int .u8 0), (.bool false), (.bool false)], none, []⟩,
    ⟨none, .store 6 (.t 11) (.t 39), none, []⟩] .seq)
  (.seq (.seq (.region [⟨some 40, .fieldAddr 4 (.t 11), none, []⟩,
    ⟨some 41, .load1 (.t 40), none, []⟩,
    ⟨some 42, .move (.t 41), none, []⟩,
    ⟨some 43, .fieldAddr 5 (.t 11), some (42, false), []⟩,
    ⟨some 44, .load1 (.t 43), some (42, false), []⟩,
    ⟨some 45, .pick (.t 42) (.c (.bool true)) (.t 44), none, []⟩] .seq)
  (.cond (.t 45) (.seq (.region [⟨some 46, .load1 (.t 9), none, []⟩,
    ⟨some 47, .loadN 6 (.t 11), none, []⟩,
    ⟨some 48, .buildSlice 43 1 6 [(.int .u32 0), (.int .i64 0), (.int .i64 0), (.int .u8 0), (.bool false), (.bool false)] [(0, 6, (.t 47))], none, []⟩,
    ⟨some 49, .append 43 6 32 [(.int .u32 0), (.int .i64 0), (.int .i64 0), (.int .u8 0), (.bool false), (.bool false)] (.t 46) (.t 48), none, []⟩,
    ⟨none, .store 1 (.t 9) (.t 49), none, []⟩] .seq)
  (.exit 3))
  .skip))
  (.seq (.region [⟨some 50, .move (.t 8), none, []⟩,
    ⟨some 51, .loadN 4 (.t 7), none, []⟩,
    ⟨some 52, .loadN 6 (.t 11), none, []⟩,
    ⟨some 53, .callV (.t 50) [(.t 51), (.t 52)], none, []⟩] .seq)
  (.block 4 (.rangeFunc (.t 53) [54] (.region [⟨some 12, .alloc 43 [(.int .u32 0), (.int .i64 0), (.int .i64 0), (.int .u8 0), (.bool false), (.bool false)], none, []⟩,
    ⟨none, .store 6 (.t 12) (.t 54), none, []⟩] .seq)
  (.block 5 (.region [⟨some 55, .load1 (.t 9), none, []⟩,
    ⟨some 56, .loadN 6 (.t 12), none, []⟩,
    ⟨some 57, .buildSlice 43 1 6 [(.int .u32 0), (.int .i64 0), (.int .i64 0), (.int .u8 0), (.bool false), (.bool false)] [(0, 6, (.t 56))], none, []⟩,
    ⟨some 58, .append 43 6 32 [(.int .u32 0), (.int .i64 0), (.int .i64 0), (.int .u8 0), (.bool false), (.bool false)] (.t 55) (.t 57), none, []⟩,
    ⟨none, .store 1 (.t 9) (.t 58), none, []⟩] .seq))))))))
  (.region [⟨some 59, .bin .add (.t 36) (.c (.int .i64 1)), none, []⟩,
    ⟨some 36, .move (.t 59), none, []⟩] .seq)))))))
  (.region [⟨some 60, .load1 (.t 9), none, []⟩,
    ⟨some 5, .move (.t 60), none, []⟩] .seq)))))))
  (.region [⟨some 61, .bin .add (.t 17) (.c (.int .i64 1)), none, []⟩,
    ⟨some 17, .move (.t 61), none, []⟩] .seq)))))))
  (.seq (.region [⟨some 62, .move (.t 5), none, []⟩,
    ⟨some 4, .move (.t 62), none, []⟩] .seq)
  .ret))))⟩
/-- anabranch/denot.windows$1 -/
def DF186 : AFunc := ⟨147, [], (.seq (.region [⟨some 24, .mkMap none, none, []⟩,
    ⟨some 5, .move (.t 24), none, []⟩] .seq)
  (.seq (.region [⟨some 6, .move (.c (.int .i64 0)), none, []⟩] .seq)
  (.seq (.seq (.region [⟨some 25, .load1 (.t 1), none, []⟩,
    ⟨some 26, .range (.t 25), none, []⟩] .seq)
  (.block 0 (.loop (.seq (.region [⟨some 27, .next (.t 26), none, []⟩,
    ⟨some 28, .extract (.t 27) 0, none, []⟩] .seq)
  (.seq (.cond (.t 28) .skip
  (.exit 0))
  (.block 1 (.seq (.region [⟨some 29, .entry (.t 26), none, []⟩,
    ⟨some 30, .extract (.t 29) 0, none, []⟩,
    ⟨some 7, .alloc 215 [(.int .i64 0), (.int .u32 0)], none, []⟩,
    ⟨none, .store 2 (.t 7) (.t 30), none, []⟩] .seq)
  (.seq (.region [⟨some 31, .move (.t 5), none, []⟩,
    ⟨some 32, .fieldAddr 1 (.t 7), none, []⟩,
    ⟨some 33, .load1 (.t 32), none, []⟩,
    ⟨none, .mapUpdate [(.i .u32)] false (.t 31) (.t 33) (.c (.bool true)), none, []⟩] .seq)
  (.region [⟨some 34, .move (.t 6), none, []⟩,
    ⟨some 35, .load1 (.t 2), none, []⟩,
    ⟨some 36, .load1 (.t 3), none, []⟩,
    ⟨some 37, .callF 50 [(.t 35), (.t 36), (.c (.int .i64 1152921504606846976))], none, []⟩,
    ⟨some 38, .maxmin true [(.t 34), (.t 37)], none, []⟩,
    ⟨some 6, .move (.t 38), none, []⟩] .seq)))))))))
  (.seq (.region [⟨some 39, .move (.t 5), none, []⟩,
    ⟨some 40, .range (.t 39), none, []⟩] .seq)
  (.block 2 (.loop (.seq (.region [⟨some 41, .next (.t 40), none, []⟩,
    ⟨some 42, .extract (.t 41) 0, none, []⟩] .seq)
  (.seq (.cond (.t 42) .skip
  (.exit 2))
  (.block 3 (.seq (.region [⟨some 43, .entry (.t 40), none, []⟩,
    ⟨some 44, .extract (.t 43) 0, none, []⟩,
    ⟨some 8, .move (.t 44), none, []⟩] .seq)
  (.seq (.region [⟨some 9, .move (.c .sl0), none, []⟩] .seq)
  (.seq (.region [⟨some 10, .move (.c (.int .i64 0)), none, []⟩] .seq)
  (.block 4 (.loop (.seq (.seq (.region [⟨some 45, .move (.t 10), none, []⟩,
    ⟨some 46, .move (.t 6), none, []⟩,
    ⟨some 47, .bin .leq (.t 45) (.t 46), none, []⟩] .seq)
  (.cond (.t 47) .skip
  (.exit 4)))
  (.seq (.block 5 (.seq (.region [⟨some 51, .load1 (.t 2), none, []⟩,
    ⟨some 52, .load1 (.t 3), none, []⟩,
    ⟨some 53, .move (.t 10), none, []⟩,
    ⟨some 54, .callF 45 [(.t 51), (.t 52), (.t 53)], none, []⟩,
    ⟨some 50, .move (.t 54), none, []⟩,
    ⟨some 55, .extract (.t 50) 0, none, []⟩,
    ⟨some 56, .extract (.t 50) 1, none, []⟩,
    ⟨some 11, .alloc 84 [(.int .i64 0), (.int .i64 0), (.int .i64 0), (.int .i64 0)], none, []⟩,
    ⟨none, .store 4 (.t 11) (.t 55), none, []⟩,
    ⟨some 12, .move (.t 56), none, []⟩] .seq)
  (.seq (.region [⟨some 57, .move (.t 9), none, []⟩,
    ⟨some 13, .move (.t 57), none, []⟩] .seq)
  (.seq (.seq (.region [⟨some 58, .load1 (.t 1), none, []⟩,
    ⟨some 59, .move (.t 10), none, []⟩,
    ⟨some 60, .move (.t 8), none, []⟩,
    ⟨some 61, .build [(.int .i64 0), (.int .u32 0)] [(0, 1, (.t 59)), (1, 1, (.t 60))], none, []⟩,
    ⟨some 62, .lookup [(.i .i64), (.i .u32)] true .sl0 (.t 58) (.t 61) false, none, []⟩,
    ⟨some 63, .len .sl (.t 62), none, []⟩,
    ⟨some 64, .move (.c (.int .i64 0)), none, []⟩] .seq)
  (.block 6 (.loop (.seq (.region [⟨some 65, .bin .lss (.t 64) (.t 63), none, []⟩] .seq)
  (.seq (.cond (.t 65) .skip
  (.exit 6))
  (.seq (.block 7 (.seq (.region [⟨some 66, .indexAddrS 6 (.t 62) (.t 64), none, []⟩,
    ⟨some 67, .loadN 6 (.t 66), none, []⟩,
    ⟨some 15, .alloc 43 [(.int .u32 0), (.int .i64 0), (.int .i64 0), (.int .u8 0), (.bool false), (.bool false)], none, []⟩,
    ⟨none, .store 6 (.t 15) (.t 67), none, []⟩] .seq)
  (.region [⟨some 68, .move (.t 13), none, []⟩,
    ⟨some 69, .loadN 4 (.t 11), none, [6, 7]⟩,
    ⟨some 70, .fieldAddr 1 (.t 15), none, []⟩,
    ⟨some 71, .load1 (.t 70), none, [6, 7]⟩,
    ⟨some 72, .fieldAddr 2 (.t 15), none, []⟩,
    ⟨some 73, .load1 (.t 72), none, [6]⟩,
    ⟨some 74, .callF 51 [(.t 73)], none, []⟩,
    ⟨some 75, .callF 187 [(.t 69), (.t 71), (.t 74)], none, []⟩,
    ⟨some 76, .append 263 7 56 [(.int .i64 0), (.int .i64 0), (.int .i64 0), (.int .i64 0), (.int .u64 0), (.int .i64 0), (.int .i64 0)] (.t 68) (.t 75), none, []⟩,
    ⟨some 13, .move (.t 76), none, []⟩] .sink)))
  (.region [⟨some 77, .bin .add (.t 64) (.c (.int .i64 1)), none, []⟩,
    ⟨some 64, .move (.t 77), none, []⟩] .seq)))))))
  (.seq (.region [⟨some 79, .load1 (.t 2), none, []⟩,
    ⟨some 80, .load1 (.t 3), none, []⟩,
    ⟨some 81, .move (.t 10), none, []⟩,
    ⟨some 82, .callF 76 [(.t 79), (.t 80), (.t 81)], none, []⟩,
    ⟨some 78, .move (.t 82), none, []⟩,
    ⟨some 83, .extract (.t 78) 0, none, []⟩,
    ⟨some 84, .extract (.t 78) 1, none, []⟩,
    ⟨some 16, .alloc 86 [(.int .i64 0), (.int .i64 0), .sl0, (.int .i64 0), (.int .i64 0), (.int .i64 0), (.int .i64 0), (.int .i64 0), (.int .i64 0), (.int .i64 0)], none, []⟩,
    ⟨none, .store 10 (.t 16) (.t 83), none, []⟩,
    ⟨some 17, .move (.t 84), none, []⟩] .seq)
  (.seq (.region [⟨some 86, .load1 (.t 2), none, []⟩,
    ⟨some 87, .load1 (.t 3), none, []⟩,
    ⟨some 88, .move (.t 10), none, []⟩,
    ⟨some 89, .bin .add (.t 88) (.c (.int .i64 1)), none, []⟩,
    ⟨some 90, .callF 45 [(.t 86), (.t 87), (.t 89)], none, []⟩,
    ⟨some 85, .move (.t 90), none, []⟩,
    ⟨some 91, .extract (.t 85) 0, none, []⟩,
    ⟨some 92, .extract (.t 85) 1, none, []⟩,
    ⟨some 18, .alloc 84 [(.int .i64 0), (.int .i64 0), (.int .i64 0), (.int .i64 0)], none, []⟩,
    ⟨none, .store 4 (.t 18) (.t 91), none, []⟩,
    ⟨some 19, .move (.t 92), none, []⟩] .seq)
  (.seq (.region [⟨some 9, .move (.c .sl0), none, []⟩] .seq)
  (.seq (.region [⟨some 93, .loadN 4 (.t 11), none, []⟩,
    ⟨some 94, .move (.t 13), none, []⟩,
    ⟨some 95, .callF 188 [(.t 93), (.t 94)], none, []⟩,
    ⟨some 96, .len .sl (.t 95), none, []⟩,
    ⟨some 97, .move (.c (.int .i64 0)), none, []⟩] .seq)
  (.block 8 (.loop (.seq (.region [⟨some 98, .bin .lss (.t 97) (.t 96), none, []⟩] .seq)
  (.seq (.cond (.t 98) .skip
  (.exit 8))
  (.seq (.block 9 (.seq (.region [⟨some 99, .indexAddrS 7 (.t 95) (.t 97), none, []⟩,
    ⟨some 100, .loadN 7 (.t 99), none, []⟩,
    ⟨some 21, .alloc 263 [(.int .i64 0), (.int .i64 0), (.int .i64 0), (.int .i64 0), (.int .u64 0), (.int .i64 0), (.int .i64 0)], none, []⟩,
    ⟨none, .store 7 (.t 21) (.t 100), none, []⟩] .seq)
  (.seq (.region [⟨some 101, .move (.t 17), none, []⟩,
    ⟨some 102, .move (.t 101), none, []⟩,
    ⟨some 103, .fieldAddr 9 (.t 16), some (102, true), []⟩,
    ⟨some 104, .load1 (.t 103), some (102, true), []⟩,
    ⟨some 105, .bin .neq (.t 104) (.c (.int .i64 0)), some (102, true), []⟩,
    ⟨some 106, .pick (.t 102) (.t 105) (.c (.bool false)), none, []⟩,
    ⟨some 107, .move (.t 106), none, []⟩,
    ⟨some 108, .fieldAddr 1 (.t 16), some (107, true), []⟩,
    ⟨some 109, .load1 (.t 108), some (107, true), []⟩,
    ⟨some 110, .fieldAddr 0 (.t 21), some (107, true), []⟩,
    ⟨some 111, .indexAddrA 2 1 (.t 110) (.c (.int .i64 1)), some (107, true), []⟩,
    ⟨some 112, .load1 (.t 111), some (107, true), []⟩,
    ⟨some 113, .bin .lss (.t 109) (.t 112), some (107, true), []⟩,
    ⟨some 114, .pick (.t 107) (.t 113) (.c (.bool false)), none, []⟩,
    ⟨some 22, .move (.t 114), none, []⟩] .seq)
  (.seq (.seq (.region [⟨some 115, .move (.t 22), none, []⟩,
    ⟨some 116, .move (.t 115), none, []⟩,
    ⟨some 117, .fieldAddr 9 (.t 16), some (116, true), []⟩,
    ⟨some 118, .load1 (.t 117), some (116, true), []⟩,
    ⟨some 119, .bin .eql (.t 118) (.c (.int .i64 2)), some (116, true), []⟩,
    ⟨some 120, .pick (.t 116) (.t 119) (.c (.bool false)), none, []⟩] .seq)
  (.cond (.t 120) (.seq (.region [⟨some 121, .move (.t 9), none, []⟩,
    ⟨some 122, .loadN 4 (.t 18), none, []⟩,
    ⟨some 123, .fieldAddr 1 (.t 16), none, []⟩,
    ⟨some 124, .load1 (.t 123), none, []⟩,
    ⟨some 125, .fieldAddr 2 (.t 21), none, []⟩,
    ⟨some 126, .loadN 5 (.t 125), none, []⟩,
    ⟨some 127, .callF 187 [(.t 122), (.t 124), (.t 126)], none, []⟩,
    ⟨some 128, .append 263 7 56 [(.int .i64 0), (.int .i64 0), (.int .i64 0), (.int .i64 0), (.int .u64 0), (.int .i64 0), (.int .i64 0)] (.t 121) (.t 127), none, []⟩,
    ⟨some 9, .move (.t 128), none, []⟩] .seq)
  (.exit 9))
  .skip))
  (.seq (.region [⟨some 129, .fieldAddr 0 (.t 21), none, []⟩,
    ⟨some 130, .indexAddrA 2 1 (.t 129) (.c (.int .i64 1)), none, []⟩,
    ⟨some 131, .load1 (.t 130), none, []⟩,
    ⟨some 23, .move (.t 131), none, []⟩] .seq)
  (.seq (.seq (.region [⟨some 132, .move (.t 22), none, []⟩] .seq)
  (.cond (.t 132) (.region [⟨some 133, .fieldAddr 1 (.t 16), none, []⟩,
    ⟨some 134, .load1 (.t 133), none, []⟩,
    ⟨some 23, .move (.t 134), none, []⟩] .seq)
  .skip))
  (.seq (.region [⟨some 135, .move (.t 0), none, []⟩,
    ⟨some 136, .move (.t 8), none, []⟩,
    ⟨some 137, .move (.t 23), none, []⟩,
    ⟨some 138, .bin .sub (.t 137) (.c (.int .i64 1)), none, []⟩,
    ⟨some 139, .fieldAddr 2 (.t 21), none, []⟩,
    ⟨some 140, .loadN 5 (.t 139), none, []⟩,
    ⟨some 141, .fieldAddr 3 (.t 11), none, []⟩,
    ⟨some 142, .load1 (.t 141), none, []⟩,
    ⟨some 143, .callF 189 [(.t 136), (.t 138), (.t 140), (.t 142)], none, []⟩,
    ⟨some 144, .callV (.t 135) [(.t 143)], none, []⟩,
    ⟨some 145, .un .not (.t 144), none, []⟩] .seq)
  (.cond (.t 145) .ret
  .skip))))))))
  (.region [⟨some 146, .bin .add (.t 97) (.c (.int .i64 1)), none, []⟩,
    ⟨some 97, .move (.t 146), none, []⟩] .seq))))))))))))))
  (.region [⟨some 48, .move (.t 10), none, []⟩,
    ⟨some 49, .bin .add (.t 48) (.c (.int .i64 1)), none, []⟩,
    ⟨some 10, .move (.t 49), none, []⟩] .seq)))))))))))))))))⟩
/-- anabranch/denot.pieces -/
def DF187 : AFunc := ⟨25, [.tmp 6], (.seq (.region [⟨some 3, .box 84 (.t 0), none, []⟩,
    ⟨some 5, .box 26 (.t 2), none, []⟩,
    ⟨some 6, .move (.c .sl0), none, []⟩] .seq)
  (.seq (.seq (.region [⟨some 9, .loadN 4 (.t 3), none, []⟩,
    ⟨some 10, .move (.t 1), none, []⟩,
    ⟨some 11, .callF 85 [(.t 9), (.t 10)], none, []⟩,
    ⟨some 12, .len .sl (.t 11), none, []⟩,
    ⟨some 13, .move (.c (.int .i64 0)), none, []⟩] .seq)
  (.block 0 (.loop (.seq (.region [⟨some 14, .bin .lss (.t 13) (.t 12), none, []⟩] .seq)
  (.seq (.cond (.t 14) .skip
  (.exit 0))
  (.seq (.block 1 (.seq (.region [⟨some 15, .indexAddrS 2 (.t 11) (.t 13), none, []⟩,
    ⟨some 16, .loadN 2 (.t 15), none, []⟩,
    ⟨some 8, .alloc 96 [(.int .i64 0), (.int .i64 0)], none, []⟩,
    ⟨none, .store 2 (.t 8) (.t 16), none, []⟩] .seq)
  (.region [⟨some 17, .move (.t 6), none, []⟩,
    ⟨some 18, .loadN 2 (.t 8), none, []⟩,
    ⟨some 19, .loadN 5 (.t 5), none, []⟩,
    ⟨some 20, .build [(.int .i64 0), (.int .i64 0), (.int .i64 0), (.int .i64 0), (.int .u64 0), (.int .i64 0), (.int .i64 0)] [(0, 2, (.t 18)), (2, 5, (.t 19))], none, []⟩,
    ⟨some 21, .buildSlice 263 1 7 [(.int .i64 0), (.int .i64 0), (.int .i64 0), (.int .i64 0), (.int .u64 0), (.int .i64 0), (.int .i64 0)] [(0, 7, (.t 20))], none, []⟩,
    ⟨some 22, .append 263 7 56 [(.int .i64 0), (.int .i64 0), (.int .i64 0), (.int .i64 0), (.int .u64 0), (.int .i64 0), (.int .i64 0)] (.t 17) (.t 21), none, []⟩,
    ⟨some 6, .move (.t 22), none, []⟩] .seq)))
  (.region [⟨some 23, .bin .add (.t 13) (.c (.int .i64 1)), none, []⟩,
    ⟨some 13, .move (.t 23), none, []⟩] .seq)))))))
  (.seq (.region [⟨some 24, .move (.t 6), none, []⟩,
    ⟨some 6, .move (.t 24), none, []⟩] .seq)
  .ret)))⟩
/-- anabranch/denot.gathered -/
def DF188 : AFunc := ⟨72, [.tmp 4], (.seq (.region [⟨some 2, .box 84 (.t 0), none, []⟩,
    ⟨some 4, .move (.c .sl0), none, []⟩] .seq)
  (.seq (.region [⟨some 5, .move (.c .sl0), none, []⟩] .seq)
  (.seq (.seq (.region [⟨some 14, .move (.t 1), none, []⟩,
    ⟨some 15, .len .sl (.t 14), none, []⟩,
    ⟨some 16, .move (.c (.int .i64 0)), none, []⟩] .seq)
  (.block 0 (.loop (.seq (.region [⟨some 17, .bin .lss (.t 16) (.t 15), none, []⟩] .seq)
  (.seq (.cond (.t 17) .skip
  (.exit 0))
  (.seq (.block 1 (.seq (.region [⟨some 18, .indexAddrS 7 (.t 14) (.t 16), none, []⟩,
    ⟨some 19, .loadN 7 (.t 18), none, []⟩,
    ⟨some 7, .alloc 263 [(.int .i64 0), (.int .i64 0), (.int .i64 0), (.int .i64 0), (.int .u64 0), (.int .i64 0), (.int .i64 0)], none, []⟩,
    ⟨none, .store 7 (.t 7) (.t 19), none, []⟩] .seq)
  (.region [⟨some 20, .move (.t 5), none, []⟩,
    ⟨some 21, .fieldAddr 0 (.t 7), none, []⟩,
    ⟨some 22, .loadN 2 (.t 21), none, []⟩,
    ⟨some 23, .buildSlice 96 1 2 [(.int .i64 0), (.int .i64 0)] [(0, 2, (.t 22))], none, []⟩,
    ⟨some 24, .append 96 2 16 [(.int .i64 0), (.int .i64 0)] (.t 20) (.t 23), none, []⟩,
    ⟨some 5, .move (.t 24), none, []⟩] .seq)))
  (.region [⟨some 25, .bin .add (.t 16) (.c (.int .i64 1)), none, []⟩,
    ⟨some 16, .move (.t 25), none, []⟩] .seq)))))))
  (.seq (.seq (.region [⟨some 26, .fieldAddr 0 (.t 2), none, []⟩,
    ⟨some 27, .load1 (.t 26), none, []⟩,
    ⟨some 28, .bin .eql (.t 27) (.c (.int .i64 6)), none, []⟩] .seq)
  (.cond (.t 28) (.region [⟨some 29, .move (.t 5), none, []⟩,
    ⟨some 30, .callF 230 [(.t 29)], none, []⟩,
    ⟨some 5, .move (.t 30), none, []⟩] .seq)
  .skip))
  (.seq (.region [⟨some 31, .mkMap none, none, []⟩,
    ⟨some 8, .move (.t 31), none, []⟩] .seq)
  (.seq (.seq (.region [⟨some 32, .move (.t 1), none, []⟩,
    ⟨some 33, .len .sl (.t 32), none, []⟩,
    ⟨some 34, .move (.c (.int .i64 0)), none, []⟩] .seq)
  (.block 2 (.loop (.seq (.region [⟨some 35, .bin .lss (.t 34) (.t 33), none, []⟩] .seq)
  (.seq (.cond (.t 35) .skip
  (.exit 2))
  (.seq (.block 3 (.seq (.region [⟨some 36, .indexAddrS 7 (.t 32) (.t 34), none, []⟩,
    ⟨some 37, .loadN 7 (.t 36), none, []⟩,
    ⟨some 10, .alloc 263 [(.int .i64 0), (.int .i64 0), (.int .i64 0), (.int .i64 0), (.int .u64 0), (.int .i64 0), (.int .i64 0)], none, []⟩,
    ⟨none, .store 7 (.t 10) (.t 37), none, []⟩] .seq)
  (.seq (.region [⟨some 38, .fieldAddr 0 (.t 10), none, []⟩,
    ⟨some 39, .loadN 2 (.t 38), none, []⟩,
    ⟨some 11, .alloc 96 [(.int .i64 0), (.int .i64 0)], none, []⟩,
    ⟨none, .store 2 (.t 11) (.t 39), none, []⟩] .seq)
  (.seq (.seq (.region [⟨some 40, .fieldAddr 0 (.t 2), none, []⟩,
    ⟨some 41, .load1 (.t 40), none, []⟩,
    ⟨some 42, .bin .eql (.t 41) (.c (.int .i64 6)), none, []⟩] .seq)
  (.cond (.t 42) (.region [⟨some 43, .move (.t 5), none, []⟩,
    ⟨some 44, .move (.t 5), none, []⟩,
    ⟨some 45, .mkFunc 232 [] [(.t 10)], none, []⟩,
    ⟨some 46, .callF 231 [(.t 44), (.t 45)], none, []⟩,
    ⟨some 47, .indexAddrS 2 (.t 43) (.t 46), none, []⟩,
    ⟨some 48, .loadN 2 (.t 47), none, []⟩,
    ⟨none, .store 2 (.t 11) (.t 48), none, []⟩] .seq)
  .skip))
  (.region [⟨some 49, .move (.t 8), none, []⟩,
    ⟨some 50, .loadN 2 (.t 11), none, [7, 8]⟩,
    ⟨some 51, .move (.t 8), none, []⟩,
    ⟨some 52, .loadN 2 (.t 11), none, [7]⟩,
    ⟨some 53, .lookup [(.i .i64), (.i .i64)] true (.agg [(.int .i64 0), (.int .i64 0), (.int .u64 0), (.int .i64 0), (.int .i64 0)]) (.t 51) (.t 52) false, none, [7]⟩,
    ⟨some 54, .fieldAddr 2 (.t 10), none, []⟩,
    ⟨some 55, .loadN 5 (.t 54), none, [7]⟩,
    ⟨some 56, .callF 102 [(.t 53), (.t 55)], none, []⟩,
    ⟨none, .mapUpdate [(.i .i64), (.i .i64)] true (.t 49) (.t 50) (.t 56), none, []⟩] .sink)))))
  (.region [⟨some 57, .bin .add (.t 34) (.c (.int .i64 1)), none, []⟩,
    ⟨some 34, .move (.t 57), none, []⟩] .seq)))))))
  (.seq (.seq (.region [⟨some 58, .move (.t 8), none, []⟩,
    ⟨some 59, .range (.t 58), none, []⟩] .seq)
  (.block 4 (.loop (.seq (.region [⟨some 60, .next (.t 59), none, []⟩,
    ⟨some 61, .extract (.t 60) 0, none, []⟩] .seq)
  (.seq (.cond (.t 61) .skip
  (.exit 4))
  (.block 5 (.seq (.region [⟨some 62, .entry (.t 59), none, []⟩,
    ⟨some 63, .extract (.t 62) 0, none, []⟩,
    ⟨some 64, .extract (.t 62) 1, none, []⟩,
    ⟨some 12, .alloc 96 [(.int .i64 0), (.int .i64 0)], none, []⟩,
    ⟨some 13, .alloc 26 [(.int .i64 0), (.int .i64 0), (.int .u64 0), (.int .i64 0), (.int .i64 0)], none, []⟩,
    ⟨none, .store 2 (.t 12) (.t 63), none, []⟩,
    ⟨none, .store 5 (.t 13) (.t 64), none, []⟩] .seq)
  (.region [⟨some 65, .move (.t 4), none, []⟩,
    ⟨some 66, .loadN 2 (.t 12), none, []⟩,
    ⟨some 67, .loadN 5 (.t 13), none, []⟩,
    ⟨some 68, .build [(.int .i64 0), (.int .i64 0), (.int .i64 0), (.int .i64 0), (.int .u64 0), (.int .i64 0), (.int .i64 0)] [(0, 2, (.t 66)), (2, 5, (.t 67))], none, []⟩,
    ⟨some 69, .buildSlice 263 1 7 [(.int .i64 0), (.int .i64 0), (.int .i64 0), (.int .i64 0), (.int .u64 0), (.int .i64 0), (.int .i64 0)] [(0, 7, (.t 68))], none, []⟩,
    ⟨some 70, .append 263 7 56 [(.int .i64 0), (.int .i64 0), (.int .i64 0), (.int .i64 0), (.int .u64 0), (.int .i64 0), (.int .i64 0)] (.t 65) (.t 69), none, []⟩,
    ⟨some 4, .move (.t 70), none, []⟩] .seq))))))))
  (.seq (.region [⟨some 71, .move (.t 4), none, []⟩,
    ⟨some 4, .move (.t 71), none, []⟩] .seq)
  .ret))))))))⟩
/-- anabranch/denot.out -/
def DF189 : AFunc := ⟨23, [.cellN 8 6], (.seq (.region [⟨some 6, .box 26 (.t 2), none, []⟩,
    ⟨some 8, .alloc 43 [(.int .u32 0), (.int .i64 0), (.int .i64 0), (.int .u8 0), (.bool false), (.bool false)], none, []⟩] .seq)
  (.seq (.region [⟨some 12, .loadN 5 (.t 6), none, []⟩,
    ⟨some 13, .move (.t 3), none, []⟩,
    ⟨some 14, .callF 46 [(.t 12), (.t 13)], none, []⟩,
    ⟨some 11, .move (.t 14), none, []⟩,
    ⟨some 15, .extract (.t 11) 0, none, []⟩,
    ⟨some 16, .extract (.t 11) 1, none, []⟩,
    ⟨some 9, .move (.t 15), none, []⟩,
    ⟨some 10, .move (.t 16), none, []⟩] .seq)
  (.seq (.region [⟨some 17, .move (.t 0), none, []⟩,
    ⟨some 18, .move (.t 1), none, []⟩,
    ⟨some 19, .move (.t 9), none, []⟩,
    ⟨some 20, .move (.t 10), none, []⟩,
    ⟨some 21, .un .not (.t 20), none, []⟩,
    ⟨some 22, .build [(.int .u32 0), (.int .i64 0), (.int .i64 0), (.int .u8 0), (.bool false), (.bool false)] [(0, 1, (.t 17)), (1, 1, (.t 18)), (2, 1, (.t 19)), (4, 1, (.t 21))], none, []⟩,
    ⟨none, .store 6 (.t 8) (.t 22), none, []⟩] .seq)
  .ret)))⟩
/-- anabranch/denot.joins$1 -/
def DF190 : AFunc := ⟨86, [], (.seq (.region [⟨some 15, .load1 (.t 1), none, []⟩,
    ⟨some 16, .range (.t 15), none, []⟩] .seq)
  (.block 0 (.loop (.seq (.region [⟨some 17, .next (.t 16), none, []⟩,
    ⟨some 18, .extract (.t 17) 0, none, []⟩] .seq)
  (.seq (.cond (.t 18) .skip
  (.exit 0))
  (.block 1 (.seq (.region [⟨some 19, .entry (.t 16), none, []⟩,
    ⟨some 20, .extract (.t 19) 0, none, []⟩,
    ⟨some 21, .extract (.t 19) 1, none, []⟩,
    ⟨some 5, .alloc 215 [(.int .i64 0), (.int .u32 0)], none, []⟩,
    ⟨none, .store 2 (.t 5) (.t 20), none, []⟩,
    ⟨some 6, .move (.t 21), none, []⟩] .seq)
  (.seq (.region [⟨some 23, .load1 (.t 2), none, []⟩,
    ⟨some 24, .load1 (.t 3), none, []⟩,
    ⟨some 25, .fieldAddr 0 (.t 5), none, []⟩,
    ⟨some 26, .load1 (.t 25), none, []⟩,
    ⟨some 27, .callF 45 [(.t 23), (.t 24), (.t 26)], none, []⟩,
    ⟨some 22, .move (.t 27), none, []⟩,
    ⟨some 28, .extract (.t 22) 0, none, []⟩,
    ⟨some 29, .extract (.t 22) 1, none, []⟩,
    ⟨some 7, .alloc 84 [(.int .i64 0), (.int .i64 0), (.int .i64 0), (.int .i64 0)], none, []⟩,
    ⟨none, .store 4 (.t 7) (.t 28), none, []⟩,
    ⟨some 8, .move (.t 29), none, []⟩] .seq)
  (.seq (.region [⟨some 30, .move (.t 6), none, []⟩,
    ⟨some 31, .len .sl (.t 30), none, []⟩,
    ⟨some 32, .move (.c (.int .i64 0)), none, []⟩] .seq)
  (.block 2 (.loop (.seq (.region [⟨some 33, .bin .lss (.t 32) (.t 31), none, []⟩] .seq)
  (.seq (.cond (.t 33) .skip
  (.exit 2))
  (.seq (.block 3 (.seq (.region [⟨some 34, .move (.t 32), none, []⟩,
    ⟨some 35, .indexAddrS 6 (.t 30) (.t 32), none, []⟩,
    ⟨some 36, .loadN 6 (.t 35), none, []⟩,
    ⟨some 10, .alloc 43 [(.int .u32 0), (.int .i64 0), (.int .i64 0), (.int .u8 0), (.bool false), (.bool false)], none, []⟩,
    ⟨some 9, .move (.t 34), none, []⟩,
    ⟨none, .store 6 (.t 10) (.t 36), none, []⟩] .seq)
  (.seq (.region [⟨some 37, .move (.t 6), none, []⟩,
    ⟨some 38, .move (.t 9), none, []⟩,
    ⟨some 39, .slice 6 (.t 37) none (some (.t 38)) none, none, []⟩,
    ⟨some 40, .len .sl (.t 39), none, []⟩,
    ⟨some 41, .move (.c (.int .i64 0)), none, []⟩] .seq)
  (.block 4 (.loop (.seq (.region [⟨some 42, .bin .lss (.t 41) (.t 40), none, []⟩] .seq)
  (.seq (.cond (.t 42) .skip
  (.exit 4))
  (.seq (.block 5 (.seq (.region [⟨some 43, .indexAddrS 6 (.t 39) (.t 41), none, []⟩,
    ⟨some 44, .loadN 6 (.t 43), none, []⟩,
    ⟨some 12, .alloc 43 [(.int .u32 0), (.int .i64 0), (.int .i64 0), (.int .u8 0), (.bool false), (.bool false)], none, []⟩,
    ⟨none, .store 6 (.t 12) (.t 44), none, []⟩] .seq)
  (.seq (.region [⟨some 45, .fieldAddr 1 (.t 10), none, []⟩,
    ⟨some 46, .load1 (.t 45), none, [12]⟩,
    ⟨some 47, .fieldAddr 1 (.t 12), none, []⟩,
    ⟨some 48, .load1 (.t 47), none, [12]⟩,
    ⟨some 49, .maxmin true [(.t 46), (.t 48)], none, []⟩,
    ⟨some 50, .fieldAddr 1 (.t 10), none, []⟩,
    ⟨some 51, .load1 (.t 50), none, [12]⟩,
    ⟨some 52, .fieldAddr 1 (.t 12), none, []⟩,
    ⟨some 53, .load1 (.t 52), none, [12]⟩,
    ⟨some 54, .maxmin false [(.t 51), (.t 53)], none, []⟩,
    ⟨some 13, .move (.t 49), none, []⟩,
    ⟨some 14, .move (.t 54), none, []⟩] .sink)
  (.seq (.region [⟨some 55, .fieldAddr 3 (.t 10), none, []⟩,
    ⟨some 56, .load1 (.t 55), none, []⟩,
    ⟨some 57, .fieldAddr 3 (.t 12), none, []⟩,
    ⟨some 58, .load1 (.t 57), none, []⟩,
    ⟨some 59, .bin .xor (.t 56) (.t 58), none, []⟩,
    ⟨some 60, .bin .and (.t 59) (.c (.int .u8 1)), none, []⟩,
    ⟨some 61, .bin .eql (.t 60) (.c (.int .u8 1)), none, []⟩,
    ⟨some 62, .move (.t 61), none, []⟩,
    ⟨some 63, .move (.t 13), some (62, true), []⟩,
    ⟨some 64, .move (.t 14), some (62, true), []⟩,
    ⟨some 65, .bin .sub (.t 63) (.t 64), some (62, true), []⟩,
    ⟨some 66, .fieldAddr 1 (.t 7), some (62, true), []⟩,
    ⟨some 67, .load1 (.t 66), some (62, true), []⟩,
    ⟨some 68, .bin .leq (.t 65) (.t 67), some (62, true), []⟩,
    ⟨some 69, .pick (.t 62) (.t 68) (.c (.bool false)), none, []⟩,
    ⟨some 70, .move (.t 69), none, []⟩,
    ⟨some 71, .move (.t 0), some (70, true), []⟩,
    ⟨some 72, .fieldAddr 1 (.t 5), some (70, true), []⟩,
    ⟨some 73, .load1 (.t 72), some (70, true), []⟩,
    ⟨some 74, .move (.t 13), some (70, true), []⟩,
    ⟨some 75, .fieldAddr 2 (.t 10), some (70, true), []⟩,
    ⟨some 76, .load1 (.t 75), some (70, true), []⟩,
    ⟨some 77, .fieldAddr 2 (.t 12), some (70, true), []⟩,
    ⟨some 78, .load1 (.t 77), some (70, true), []⟩,
    ⟨some 79, .bin .add (.t 76) (.t 78), some (70, true), []⟩,
    ⟨some 80, .build [(.int .u32 0), (.int .i64 0), (.int .i64 0), (.int .u8 0), (.bool false), (.bool false)] [(0, 1, (.t 73)), (1, 1, (.t 74)), (2, 1, (.t 79))], some (70, true), []⟩,
    ⟨some 81, .callV (.t 71) [(.t 80)], some (70, true), []⟩,
    ⟨some 82, .un .not (.t 81), some (70, true), []⟩,
    ⟨some 83, .pick (.t 70) (.t 82) (.c (.bool false)), none, []⟩] .seq)
  (.cond (.t 83) .ret
  .skip)))))
  (.region [⟨some 84, .bin .add (.t 41) (.c (.int .i64 1)), none, []⟩,
    ⟨some 41, .move (.t 84), none, []⟩] .seq)))))))))
  (.region [⟨some 85, .bin .add (.t 32) (.c (.int .i64 1)), none, []⟩,
    ⟨some 32, .move (.t 85), none, []⟩] .seq)))))))))))))))⟩
/-- slices.stableCmpFunc[anabranch/api.Rec] -/
def DF207 : AFunc := ⟨63, [], (.seq (.region [⟨some 6, .move (.c (.int .i64 20)), none, []⟩] .seq)
  (.seq (.region [⟨some 10, .move (.t 6), none, []⟩,
    ⟨some 7, .move (.c (.int .i64 0)), none, []⟩,
    ⟨some 8, .move (.t 10), none, []⟩] .seq)
  (.seq (.block 0 (.loop (.seq (.seq (.region [⟨some 11, .move (.t 8), none, []⟩,
    ⟨some 12, .move (.t 1), none, []⟩,
    ⟨some 13, .bin .leq (.t 11) (.t 12), none, []⟩] .seq)
  (.cond (.t 13) .skip
  (.exit 0)))
  (.block 1 (.seq (.region [⟨some 14, .move (.t 0), none, []⟩,
    ⟨some 15, .move (.t 7), none, []⟩,
    ⟨some 16, .move (.t 8), none, []⟩,
    ⟨some 17, .move (.t 2), none, []⟩,
    ⟨some 18, .callF 239 [(.t 14), (.t 15), (.t 16), (.t 17)], none, []⟩] .seq)
  (.seq (.region [⟨some 19, .move (.t 8), none, []⟩,
    ⟨some 7, .move (.t 19), none, []⟩] .seq)
  (.region [⟨some 20, .move (.t 8), none, []⟩,
    ⟨some 21, .move (.t 6), none, []⟩,
    ⟨some 22, .bin .add (.t 20) (.t 21), none, []⟩,
    ⟨some 8, .move (.t 22), none, []⟩] .seq)))))))
  (.seq (.region [⟨some 23, .move (.t 0), none, []⟩,
    ⟨some 24, .move (.t 7), none, []⟩,
    ⟨some 25, .move (.t 1), none, []⟩,
    ⟨some 26, .move (.t 2), none, []⟩,
    ⟨some 27, .callF 239 [(.t 23), (.t 24), (.t 25), (.t 26)], none, []⟩] .seq)
  (.block 2 (.loop (.seq (.seq (.region [⟨some 28, .move (.t 6), none, []⟩,
    ⟨some 29, .move (.t 1), none, []⟩,
    ⟨some 30, .bin .lss (.t 28) (.t 29), none, []⟩] .seq)
  (.cond (.t 30) .skip
  (.exit 2)))
  (.block 3 (.seq (.region [⟨some 31, .move (.t 6), none, []⟩,
    ⟨some 32, .bin .mul (.c (.int .i64 2)) (.t 31), none, []⟩,
    ⟨some 7, .move (.c (.int .i64 0)), none, []⟩,
    ⟨some 8, .move (.t 32), none, []⟩] .seq)
  (.seq (.block 4 (.loop (.seq (.seq (.region [⟨some 33, .move (.t 8), none, []⟩,
    ⟨some 34, .move (.t 1), none, []⟩,
    ⟨some 35, .bin .leq (.t 33) (.t 34), none, []⟩] .seq)
  (.cond (.t 35) .skip
  (.exit 4)))
  (.block 5 (.seq (.region [⟨some 36, .move (.t 0), none, []⟩,
    ⟨some 37, .move (.t 7), none, []⟩,
    ⟨some 38, .move (.t 7), none, []⟩,
    ⟨some 39, .move (.t 6), none, []⟩,
    ⟨some 40, .bin .add (.t 38) (.t 39), none, []⟩,
    ⟨some 41, .move (.t 8), none, []⟩,
    ⟨some 42, .move (.t 2), none, []⟩,
    ⟨some 43, .callF 240 [(.t 36), (.t 37), (.t 40), (.t 41), (.t 42)], none, []⟩] .seq)
  (.seq (.region [⟨some 44, .move (.t 8), none, []⟩,
    ⟨some 7, .move (.t 44), none, []⟩] .seq)
  (.region [⟨some 45, .move (.t 8), none, []⟩,
    ⟨some 46, .move (.t 6), none, []⟩,
    ⟨some 47, .bin .mul (.c (.int .i64 2)) (.t 46), none, []⟩,
    ⟨some 48, .bin .add (.t 45) (.t 47), none, []⟩,
    ⟨some 8, .move (.t 48), none, []⟩] .seq)))))))
  (.seq (.seq (.region [⟨some 49, .move (.t 7), none, []⟩,
    ⟨some 50, .move (.t 6), none, []⟩,
    ⟨some 51, .bin .add (.t 49) (.t 50), none, []⟩,
    ⟨some 9, .move (.t 51), none, []⟩] .seq)
  (.seq (.region [⟨some 52, .move (.t 9), none, []⟩,
    ⟨some 53, .move (.t 1), none, []⟩,
    ⟨some 54, .bin .lss (.t 52) (.t 53), none, []⟩] .seq)
  (.cond (.t 54) (.region [⟨some 55, .move (.t 0), none, []⟩,
    ⟨some 56, .move (.t 7), none, []⟩,
    ⟨some 57, .move (.t 9), none, []⟩,
    ⟨some 58, .move (.t 1), none, []⟩,
    ⟨some 59, .move (.t 2), none, []⟩,
    ⟨some 60, .callF 240 [(.t 55), (.t 56), (.t 57), (.t 58), (.t 59)], none, []⟩] .seq)
  .skip)))
  (.region [⟨some 61, .move (.t 6), none, []⟩,
    ⟨some 62, .bin .mul (.t 61) (.c (.int .i64 2)), none, []⟩,
    ⟨some 6, .move (.t 62), none, []⟩] .seq))))))))))))⟩
/-- anabranch/win.from$1 -/
def DF208 : AFunc := ⟨36, [], (.seq (.region [⟨some 7, .load1 (.t 1), none, []⟩,
    ⟨some 8, .load1 (.t 2), none, []⟩,
    ⟨some 9, .bin .rem (.t 7) (.t 8), none, []⟩,
    ⟨some 5, .move (.t 9), none, []⟩] .seq)
  (.seq (.seq (.region [⟨some 10, .move (.t 5), none, []⟩,
    ⟨some 11, .bin .lss (.t 10) (.c (.int .i64 0)), none, []⟩] .seq)
  (.cond (.t 11) (.region [⟨some 12, .move (.t 5), none, []⟩,
    ⟨some 13, .load1 (.t 2), none, []⟩,
    ⟨some 14, .bin .add (.t 12) (.t 13), none, []⟩,
    ⟨some 5, .move (.t 14), none, []⟩] .seq)
  .skip))
  (.seq (.region [⟨some 15, .load1 (.t 1), none, []⟩,
    ⟨some 16, .move (.t 5), none, []⟩,
    ⟨some 17, .bin .sub (.t 15) (.t 16), none, []⟩,
    ⟨some 18, .load1 (.t 3), none, []⟩,
    ⟨some 19, .bin .sub (.t 17) (.t 18), none, []⟩,
    ⟨some 20, .load1 (.t 2), none, []⟩,
    ⟨some 21, .bin .add (.t 19) (.t 20), none, []⟩,
    ⟨some 6, .move (.t 21), none, []⟩] .seq)
  (.block 0 (.loop (.seq (.seq (.region [⟨some 22, .move (.t 6), none, []⟩,
    ⟨some 23, .load1 (.t 1), none, []⟩,
    ⟨some 24, .bin .leq (.t 22) (.t 23), none, []⟩] .seq)
  (.cond (.t 24) .skip
  (.exit 0)))
  (.seq (.block 1 (.seq (.region [⟨some 28, .move (.t 0), none, []⟩,
    ⟨some 29, .move (.t 6), none, []⟩,
    ⟨some 30, .move (.t 6), none, []⟩,
    ⟨some 31, .load1 (.t 3), none, []⟩,
    ⟨some 32, .bin .add (.t 30) (.t 31), none, []⟩,
    ⟨some 33, .build [(.int .i64 0), (.int .i64 0)] [(0, 1, (.t 29)), (1, 1, (.t 32))], none, []⟩,
    ⟨some 34, .callV (.t 28) [(.t 33)], none, []⟩,
    ⟨some 35, .un .not (.t 34), none, []⟩] .seq)
  (.cond (.t 35) .ret
  .skip)))
  (.region [⟨some 25, .move (.t 6), none, []⟩,
    ⟨some 26, .load1 (.t 2), none, []⟩,
    ⟨some 27, .bin .add (.t 25) (.t 26), none, []⟩,
    ⟨some 6, .move (.t 27), none, []⟩] .seq))))))))⟩
/-- slices.Values[[][2]int64,[2]int64]$1 -/
def DF209 : AFunc := ⟨16, [], (.seq (.region [⟨some 5, .load1 (.t 1), none, []⟩,
    ⟨some 6, .len .sl (.t 5), none, []⟩,
    ⟨some 7, .move (.c (.int .i64 0)), none, []⟩] .seq)
  (.block 0 (.loop (.seq (.region [⟨some 8, .bin .lss (.t 7) (.t 6), none, []⟩] .seq)
  (.seq (.cond (.t 8) .skip
  (.exit 0))
  (.seq (.block 1 (.seq (.region [⟨some 9, .indexAddrS 2 (.t 5) (.t 7), none, []⟩,
    ⟨some 10, .loadN 2 (.t 9), none, []⟩,
    ⟨some 4, .alloc 96 [(.int .i64 0), (.int .i64 0)], none, []⟩,
    ⟨none, .store 2 (.t 4) (.t 10), none, []⟩] .seq)
  (.seq (.region [⟨some 11, .move (.t 0), none, []⟩,
    ⟨some 12, .loadN 2 (.t 4), none, []⟩,
    ⟨some 13, .callV (.t 11) [(.t 12)], none, []⟩,
    ⟨some 14, .un .not (.t 13), none, []⟩] .seq)
  (.cond (.t 14) .ret
  .skip))))
  (.region [⟨some 15, .bin .add (.t 7) (.c (.int .i64 1)), none, []⟩,
    ⟨some 7, .move (.t 15), none, []⟩] .seq)))))))⟩
/-- slices.AppendSeq[[][2]int64,[2]int64] -/
def DF210 : AFunc := ⟨13, [.tmp 4], (.seq (.region [⟨some 2, .box 163 (.t 0), none, []⟩,
    ⟨some 4, .move (.c .sl0), none, []⟩] .seq)
  (.seq (.seq (.region [⟨some 6, .move (.t 1), none, []⟩] .seq)
  (.block 0 (.rangeFunc (.t 6) [7] (.region [⟨some 5, .alloc 96 [(.int .i64 0), (.int .i64 0)], none, []⟩,
    ⟨none, .store 2 (.t 5) (.t 7), none, []⟩] .seq)
  (.block 1 (.region [⟨some 8, .load1 (.t 2), none, []⟩,
    ⟨some 9, .loadN 2 (.t 5), none, []⟩,
    ⟨some 10, .buildSlice 96 1 2 [(.int .i64 0), (.int .i64 0)] [(0, 2, (.t 9))], none, []⟩,
    ⟨some 11, .append 96 2 16 [(.int .i64 0), (.int .i64 0)] (.t 8) (.t 10), none, []⟩,
    ⟨none, .store 1 (.t 2) (.t 11), none, []⟩] .seq)))))
  (.seq (.region [⟨some 12, .load1 (.t 2), none, []⟩,
    ⟨some 4, .move (.t 12), none, []⟩] .seq)
  .ret)))⟩
/-- anabranch/plan.nodes$1 -/
def DF211 : AFunc := ⟨59, [], (.seq (.seq (.region [⟨some 9, .fieldAddr 0 (.t 1), none, []⟩,
    ⟨some 10, .load1 (.t 9), none, []⟩,
    ⟨some 11, .len .sl (.t 10), none, []⟩,
    ⟨some 12, .move (.c (.int .i64 0)), none, []⟩] .seq)
  (.block 0 (.loop (.seq (.region [⟨some 13, .bin .lss (.t 12) (.t 11), none, []⟩] .seq)
  (.seq (.cond (.t 13) .skip
  (.exit 0))
  (.seq (.block 1 (.seq (.region [⟨some 14, .move (.t 12), none, []⟩,
    ⟨some 15, .indexAddrS 4 (.t 10) (.t 12), none, []⟩,
    ⟨some 16, .loadN 4 (.t 15), none, []⟩,
    ⟨some 4, .alloc 84 [(.int .i64 0), (.int .i64 0), (.int .i64 0), (.int .i64 0)], none, []⟩,
    ⟨some 3, .move (.t 14), none, []⟩,
    ⟨none, .store 4 (.t 4) (.t 16), none, []⟩] .seq)
  (.seq (.region [⟨some 17, .move (.t 0), none, []⟩,
    ⟨some 18, .move (.t 3), none, []⟩,
    ⟨some 19, .build [(.int .i64 0), (.int .i64 0)] [(0, 1, (.c (.int .i64 0))), (1, 1, (.t 18))], none, []⟩,
    ⟨some 20, .loadN 4 (.t 4), none, []⟩,
    ⟨some 21, .callV (.t 17) [(.t 19), (.t 20)], none, []⟩,
    ⟨some 22, .un .not (.t 21), none, []⟩] .seq)
  (.cond (.t 22) .ret
  .skip))))
  (.region [⟨some 23, .bin .add (.t 12) (.c (.int .i64 1)), none, []⟩,
    ⟨some 12, .move (.t 23), none, []⟩] .seq)))))))
  (.seq (.region [⟨some 24, .fieldAddr 1 (.t 1), none, []⟩,
    ⟨some 25, .load1 (.t 24), none, []⟩,
    ⟨some 26, .len .sl (.t 25), none, []⟩,
    ⟨some 27, .move (.c (.int .i64 0)), none, []⟩] .seq)
  (.block 2 (.loop (.seq (.region [⟨some 28, .bin .lss (.t 27) (.t 26), none, []⟩] .seq)
  (.seq (.cond (.t 28) .skip
  (.exit 2))
  (.seq (.block 3 (.seq (.region [⟨some 29, .move (.t 27), none, []⟩,
    ⟨some 30, .indexAddrS 5 (.t 25) (.t 27), none, []⟩,
    ⟨some 31, .loadN 5 (.t 30), none, []⟩,
    ⟨some 6, .alloc 95 [(.int .i64 0), (.int .i64 0), (.int .i64 0), (.int .i64 0), .sl0], none, []⟩,
    ⟨some 5, .move (.t 29), none, []⟩,
    ⟨none, .store 5 (.t 6) (.t 31), none, []⟩] .seq)
  (.seq (.seq (.region [⟨some 32, .move (.t 0), none, []⟩,
    ⟨some 33, .move (.t 5), none, []⟩,
    ⟨some 34, .bin .add (.t 33) (.c (.int .i64 1)), none, []⟩,
    ⟨some 35, .build [(.int .i64 0), (.int .i64 0)] [(0, 1, (.t 34)), (1, 1, (.c (.int .i64 0)))], none, []⟩,
    ⟨some 36, .fieldAddr 0 (.t 6), none, []⟩,
    ⟨some 37, .loadN 4 (.t 36), none, []⟩,
    ⟨some 38, .callV (.t 32) [(.t 35), (.t 37)], none, []⟩,
    ⟨some 39, .un .not (.t 38), none, []⟩] .seq)
  (.cond (.t 39) .ret
  .skip))
  (.seq (.region [⟨some 40, .fieldAddr 4 (.t 6), none, []⟩,
    ⟨some 41, .load1 (.t 40), none, []⟩,
    ⟨some 42, .len .sl (.t 41), none, []⟩,
    ⟨some 43, .move (.c (.int .i64 0)), none, []⟩] .seq)
  (.block 4 (.loop (.seq (.region [⟨some 44, .bin .lss (.t 43) (.t 42), none, []⟩] .seq)
  (.seq (.cond (.t 44) .skip
  (.exit 4))
  (.seq (.block 5 (.seq (.region [⟨some 45, .move (.t 43), none, []⟩,
    ⟨some 46, .indexAddrS 4 (.t 41) (.t 43), none, []⟩,
    ⟨some 47, .loadN 4 (.t 46), none, []⟩,
    ⟨some 8, .alloc 84 [(.int .i64 0), (.int .i64 0), (.int .i64 0), (.int .i64 0)], none, []⟩,
    ⟨some 7, .move (.t 45), none, []⟩,
    ⟨none, .store 4 (.t 8) (.t 47), none, []⟩] .seq)
  (.seq (.region [⟨some 48, .move (.t 0), none, []⟩,
    ⟨some 49, .move (.t 5), none, []⟩,
    ⟨some 50, .bin .add (.t 49) (.c (.int .i64 1)), none, []⟩,
    ⟨some 51, .move (.t 7), none, []⟩,
    ⟨some 52, .bin .add (.t 51) (.c (.int .i64 1)), none, []⟩,
    ⟨some 53, .build [(.int .i64 0), (.int .i64 0)] [(0, 1, (.t 50)), (1, 1, (.t 52))], none, []⟩,
    ⟨some 54, .loadN 4 (.t 8), none, []⟩,
    ⟨some 55, .callV (.t 48) [(.t 53), (.t 54)], none, []⟩,
    ⟨some 56, .un .not (.t 55), none, []⟩] .seq)
  (.cond (.t 56) .ret
  .skip))))
  (.region [⟨some 57, .bin .add (.t 43) (.c (.int .i64 1)), none, []⟩,
    ⟨some 43, .move (.t 57), none, []⟩] .seq))))))))))
  (.region [⟨some 58, .bin .add (.t 27) (.c (.int .i64 1)), none, []⟩,
    ⟨some 27, .move (.t 58), none, []⟩] .seq))))))))⟩
/-- anabranch/bin.turns$1 -/
def DF212 : AFunc := ⟨19, [], (.block 0 (.loop (.seq (.seq (.region [⟨some 5, .load1 (.t 1), none, []⟩,
    ⟨some 6, .len .sl (.t 5), none, []⟩,
    ⟨some 7, .bin .gtr (.t 6) (.c (.int .i64 0)), none, []⟩] .seq)
  (.cond (.t 7) .skip
  (.exit 0)))
  (.block 1 (.seq (.region [⟨some 8, .load1 (.t 1), none, []⟩,
    ⟨some 9, .len .sl (.t 8), none, []⟩,
    ⟨some 10, .move (.c (.int .i64 0)), none, []⟩] .seq)
  (.block 2 (.loop (.seq (.region [⟨some 11, .bin .lss (.t 10) (.t 9), none, []⟩] .seq)
  (.seq (.cond (.t 11) .skip
  (.exit 2))
  (.seq (.block 3 (.seq (.region [⟨some 12, .indexAddrS 1 (.t 8) (.t 10), none, []⟩,
    ⟨some 13, .load1 (.t 12), none, []⟩,
    ⟨some 4, .move (.t 13), none, []⟩] .seq)
  (.seq (.region [⟨some 14, .move (.t 0), none, []⟩,
    ⟨some 15, .move (.t 4), none, []⟩,
    ⟨some 16, .callV (.t 14) [(.t 15)], none, []⟩,
    ⟨some 17, .un .not (.t 16), none, []⟩] .seq)
  (.cond (.t 17) .ret
  .skip))))
  (.region [⟨some 18, .bin .add (.t 10) (.c (.int .i64 1)), none, []⟩,
    ⟨some 10, .move (.t 18), none, []⟩] .seq)))))))))))⟩
/-- anabranch/oper.only -/
def DF213 : AFunc := ⟨4, [.tmp 2], (.seq (.region [⟨some 1, .box 43 (.t 0), none, []⟩,
    ⟨some 2, .move (.c .fn0), none, []⟩] .seq)
  (.seq (.region [⟨some 3, .mkFunc 241 [] [(.t 1)], none, []⟩,
    ⟨some 2, .move (.t 3), none, []⟩] .seq)
  .ret))⟩
/-- anabranch/oper.filtered$1 -/
def DF214 : AFunc := ⟨2, [], .skip⟩
/-- anabranch/oper.copied$1 -/
def DF215 : AFunc := ⟨19, [], (.seq (.region [⟨some 4, .fieldAddr 1 (.t 1), none, []⟩,
    ⟨some 5, .load1 (.t 4), none, []⟩,
    ⟨some 6, .move (.c (.int .i64 0)), none, []⟩] .seq)
  (.block 0 (.loop (.seq (.region [⟨some 7, .bin .lss (.t 6) (.t 5), none, []⟩] .seq)
  (.seq (.cond (.t 7) .skip
  (.exit 0))
  (.seq (.block 1 (.seq (.seq (.region [⟨some 8, .move (.t 0), none, []⟩,
    ⟨some 9, .loadN 6 (.t 2), none, []⟩,
    ⟨some 10, .callV (.t 8) [(.t 9)], none, []⟩,
    ⟨some 11, .un .not (.t 10), none, []⟩] .seq)
  (.cond (.t 11) .ret
  .skip))
  (.region [⟨some 12, .fieldAddr 2 (.t 2), none, []⟩,
    ⟨some 13, .load1 (.t 12), none, []⟩,
    ⟨some 14, .fieldAddr 2 (.t 1), none, []⟩,
    ⟨some 15, .load1 (.t 14), none, []⟩,
    ⟨some 16, .bin .add (.t 13) (.t 15), none, []⟩,
    ⟨some 17, .fieldAddr 2 (.t 2), none, []⟩,
    ⟨none, .store 1 (.t 17) (.t 16), none, []⟩] .seq)))
  (.region [⟨some 18, .bin .add (.t 6) (.c (.int .i64 1)), none, []⟩,
    ⟨some 6, .move (.t 18), none, []⟩] .seq)))))))⟩
/-- anabranch/bin.Rising -/
def DF217 : AFunc := ⟨23, [.tmp 2], (.seq (.region [⟨some 2, .move (.c (.bool false)), none, []⟩] .seq)
  (.seq (.region [⟨some 3, .move (.c (.int .i64 (-1))), none, []⟩] .seq)
  (.seq (.seq (.region [⟨some 6, .move (.t 0), none, []⟩,
    ⟨some 7, .len .sl (.t 6), none, []⟩,
    ⟨some 8, .move (.c (.int .i64 0)), none, []⟩] .seq)
  (.block 0 (.loop (.seq (.region [⟨some 9, .bin .lss (.t 8) (.t 7), none, []⟩] .seq)
  (.seq (.cond (.t 9) .skip
  (.exit 0))
  (.seq (.block 1 (.seq (.region [⟨some 10, .indexAddrS 1 (.t 6) (.t 8), none, []⟩,
    ⟨some 11, .load1 (.t 10), none, []⟩,
    ⟨some 5, .move (.t 11), none, []⟩] .seq)
  (.seq (.seq (.region [⟨some 12, .move (.t 5), none, []⟩,
    ⟨some 13, .move (.t 3), none, []⟩,
    ⟨some 14, .bin .leq (.t 12) (.t 13), none, []⟩,
    ⟨some 15, .move (.t 14), none, []⟩,
    ⟨some 16, .move (.t 5), some (15, false), []⟩,
    ⟨some 17, .bin .geq (.t 16) (.c (.int .i64 8)), some (15, false), []⟩,
    ⟨some 18, .pick (.t 15) (.c (.bool true)) (.t 17), none, []⟩] .seq)
  (.cond (.t 18) (.seq (.region [⟨some 2, .move (.c (.bool false)), none, []⟩] .seq)
  .ret)
  .skip))
  (.region [⟨some 19, .move (.t 5), none, []⟩,
    ⟨some 3, .move (.t 19), none, []⟩] .seq))))
  (.region [⟨some 20, .bin .add (.t 8) (.c (.int .i64 1)), none, []⟩,
    ⟨some 8, .move (.t 20), none, []⟩] .seq)))))))
  (.seq (.region [⟨some 21, .move (.t 3), none, []⟩,
    ⟨some 22, .bin .geq (.t 21) (.c (.int .i64 0)), none, []⟩,
    ⟨some 2, .move (.t 22), none, []⟩] .seq)
  .ret))))⟩
/-- slices.Contains[[]int,int] -/
def DF218 : AFunc := ⟨9, [.tmp 4], (.seq (.region [⟨some 4, .move (.c (.bool false)), none, []⟩] .seq)
  (.seq (.region [⟨some 5, .move (.t 0), none, []⟩,
    ⟨some 6, .move (.t 1), none, []⟩,
    ⟨some 7, .callF 243 [(.t 5), (.t 6)], none, []⟩,
    ⟨some 8, .bin .geq (.t 7) (.c (.int .i64 0)), none, []⟩,
    ⟨some 4, .move (.t 8), none, []⟩] .seq)
  .ret))⟩
/-- slices.insertionSortOrdered[int] -/
def DF219 : AFunc := ⟨49, [], (.seq (.region [⟨some 8, .move (.t 1), none, []⟩,
    ⟨some 9, .bin .add (.t 8) (.c (.int .i64 1)), none, []⟩,
    ⟨some 6, .move (.t 9), none, []⟩] .seq)
  (.block 0 (.loop (.seq (.seq (.region [⟨some 10, .move (.t 6), none, []⟩,
    ⟨some 11, .move (.t 2), none, []⟩,
    ⟨some 12, .bin .lss (.t 10) (.t 11), none, []⟩] .seq)
  (.cond (.t 12) .skip
  (.exit 0)))
  (.seq (.block 1 (.seq (.region [⟨some 15, .move (.t 6), none, []⟩,
    ⟨some 7, .move (.t 15), none, []⟩] .seq)
  (.block 2 (.loop (.seq (.seq (.region [⟨some 16, .move (.t 7), none, []⟩,
    ⟨some 17, .move (.t 1), none, []⟩,
    ⟨some 18, .bin .gtr (.t 16) (.t 17), none, []⟩,
    ⟨some 19, .move (.t 18), none, []⟩,
    ⟨some 20, .move (.t 0), some (19, true), []⟩,
    ⟨some 21, .move (.t 7), some (19, true), []⟩,
    ⟨some 22, .indexAddrS 1 (.t 20) (.t 21), some (19, true), []⟩,
    ⟨some 23, .load1 (.t 22), some (19, true), [13]⟩,
    ⟨some 24, .move (.t 0), some (19, true), []⟩,
    ⟨some 25, .move (.t 7), some (19, true), []⟩,
    ⟨some 26, .bin .sub (.t 25) (.c (.int .i64 1)), some (19, true), []⟩,
    ⟨some 27, .indexAddrS 1 (.t 24) (.t 26), some (19, true), []⟩,
    ⟨some 28, .load1 (.t 27), some (19, true), [13]⟩,
    ⟨some 29, .callF 225 [(.t 23), (.t 28)], some (19, true), []⟩,
    ⟨some 30, .pick (.t 19) (.t 29) (.c (.bool false)), none, []⟩] .sink)
  (.cond (.t 30) .skip
  (.exit 2)))
  (.seq (.block 3 (.region [⟨some 33, .move (.t 0), none, []⟩,
    ⟨some 34, .move (.t 7), none, []⟩,
    ⟨some 35, .move (.t 0), none, []⟩,
    ⟨some 36, .move (.t 7), none, []⟩,
    ⟨some 37, .bin .sub (.t 36) (.c (.int .i64 1)), none, []⟩,
    ⟨some 38, .move (.t 0), none, []⟩,
    ⟨some 39, .move (.t 7), none, []⟩,
    ⟨some 40, .bin .sub (.t 39) (.c (.int .i64 1)), none, []⟩,
    ⟨some 41, .indexAddrS 1 (.t 38) (.t 40), none, []⟩,
    ⟨some 42, .load1 (.t 41), none, [15]⟩,
    ⟨some 43, .move (.t 0), none, []⟩,
    ⟨some 44, .move (.t 7), none, []⟩,
    ⟨some 45, .indexAddrS 1 (.t 43) (.t 44), none, []⟩,
    ⟨some 46, .load1 (.t 45), none, [15]⟩,
    ⟨some 47, .indexAddrS 1 (.t 33) (.t 34), none, []⟩,
    ⟨none, .store 1 (.t 47) (.t 42), none, []⟩,
    ⟨some 48, .indexAddrS 1 (.t 35) (.t 37), none, []⟩,
    ⟨none, .store 1 (.t 48) (.t 46), none, []⟩] .sink))
  (.region [⟨some 31, .move (.t 7), none, []⟩,
    ⟨some 32, .bin .sub (.t 31) (.c (.int .i64 1)), none, []⟩,
    ⟨some 7, .move (.t 32), none, []⟩] .seq)))))))
  (.region [⟨some 13, .move (.t 6), none, []⟩,
    ⟨some 14, .bin .add (.t 13) (.c (.int .i64 1)), none, []⟩,
    ⟨some 6, .move (.t 14), none, []⟩] .seq))))))⟩
/-- slices.heapSortOrdered[int] -/
def DF220 : AFunc := ⟨56, [], (.seq (.region [⟨some 11, .move (.t 1), none, []⟩,
    ⟨some 6, .move (.t 11), none, []⟩] .seq)
  (.seq (.region [⟨some 7, .move (.c (.int .i64 0)), none, []⟩] .seq)
  (.seq (.region [⟨some 12, .move (.t 2), none, []⟩,
    ⟨some 13, .move (.t 1), none, []⟩,
    ⟨some 14, .bin .sub (.t 12) (.t 13), none, []⟩,
    ⟨some 8, .move (.t 14), none, []⟩] .seq)
  (.seq (.seq (.region [⟨some 15, .move (.t 8), none, []⟩,
    ⟨some 16, .bin .sub (.t 15) (.c (.int .i64 1)), none, []⟩,
    ⟨some 17, .bin .quo (.t 16) (.c (.int .i64 2)), none, []⟩,
    ⟨some 9, .move (.t 17), none, []⟩] .seq)
  (.block 0 (.loop (.seq (.seq (.region [⟨some 18, .move (.t 9), none, []⟩,
    ⟨some 19, .bin .geq (.t 18) (.c (.int .i64 0)), none, []⟩] .seq)
  (.cond (.t 19) .skip
  (.exit 0)))
  (.seq (.block 1 (.region [⟨some 22, .move (.t 0), none, []⟩,
    ⟨some 23, .move (.t 9), none, []⟩,
    ⟨some 24, .move (.t 8), none, []⟩,
    ⟨some 25, .move (.t 6), none, []⟩,
    ⟨some 26, .callF 244 [(.t 22), (.t 23), (.t 24), (.t 25)], none, []⟩] .seq))
  (.region [⟨some 20, .move (.t 9), none, []⟩,
    ⟨some 21, .bin .sub (.t 20) (.c (.int .i64 1)), none, []⟩,
    ⟨some 9, .move (.t 21), none, []⟩] .seq))))))
  (.seq (.region [⟨some 27, .move (.t 8), none, []⟩,
    ⟨some 28, .bin .sub (.t 27) (.c (.int .i64 1)), none, []⟩,
    ⟨some 10, .move (.t 28), none, []⟩] .seq)
  (.block 2 (.loop (.seq (.seq (.region [⟨some 29, .move (.t 10), none, []⟩,
    ⟨some 30, .bin .geq (.t 29) (.c (.int .i64 0)), none, []⟩] .seq)
  (.cond (.t 30) .skip
  (.exit 2)))
  (.seq (.block 3 (.seq (.region [⟨some 33, .move (.t 0), none, []⟩,
    ⟨some 34, .move (.t 6), none, []⟩,
    ⟨some 35, .move (.t 0), none, []⟩,
    ⟨some 36, .move (.t 6), none, []⟩,
    ⟨some 37, .move (.t 10), none, []⟩,
    ⟨some 38, .bin .add (.t 36) (.t 37), none, []⟩,
    ⟨some 39, .move (.t 0), none, []⟩,
    ⟨some 40, .move (.t 6), none, []⟩,
    ⟨some 41, .move (.t 10), none, []⟩,
    ⟨some 42, .bin .add (.t 40) (.t 41), none, []⟩,
    ⟨some 43, .indexAddrS 1 (.t 39) (.t 42), none, []⟩,
    ⟨some 44, .load1 (.t 43), none, [17]⟩,
    ⟨some 45, .move (.t 0), none, []⟩,
    ⟨some 46, .move (.t 6), none, []⟩,
    ⟨some 47, .indexAddrS 1 (.t 45) (.t 46), none, []⟩,
    ⟨some 48, .load1 (.t 47), none, [17]⟩,
    ⟨some 49, .indexAddrS 1 (.t 33) (.t 34), none, []⟩,
    ⟨none, .store 1 (.t 49) (.t 44), none, []⟩,
    ⟨some 50, .indexAddrS 1 (.t 35) (.t 38), none, []⟩,
    ⟨none, .store 1 (.t 50) (.t 48), none, []⟩] .sink)
  (.region [⟨some 51, .move (.t 0), none, []⟩,
    ⟨some 52, .move (.t 7), none, []⟩,
    ⟨some 53, .move (.t 10), none, []⟩,
    ⟨some 54, .move (.t 6), none, []⟩,
    ⟨some 55, .callF 244 [(.t 51), (.t 52), (.t 53), (.t 54)], none, []⟩] .seq)))
  (.region [⟨some 31, .move (.t 10), none, []⟩,
    ⟨some 32, .bin .sub (.t 31) (.c (.int .i64 1)), none, []⟩,
    ⟨some 10, .move (.t 32), none, []⟩] .seq))))))))))⟩
/-- slices.breakPatternsOrdered[int] -/
def DF221 : AFunc := ⟨65, [], (.seq (.region [⟨some 11, .move (.t 2), none, []⟩,
    ⟨some 12, .move (.t 1), none, []⟩,
    ⟨some 13, .bin .sub (.t 11) (.t 12), none, []⟩,
    ⟨some 6, .move (.t 13), none, []⟩] .seq)
  (.seq (.region [⟨some 14, .move (.t 6), none, []⟩,
    ⟨some 15, .bin .geq (.t 14) (.c (.int .i64 8)), none, []⟩] .seq)
  (.cond (.t 15) (.seq (.region [⟨some 16, .move (.t 6), none, []⟩,
    ⟨some 17, .conv .u64 (.t 16), none, []⟩,
    ⟨some 7, .alloc 304 [(.int .u64 0)], none, []⟩,
    ⟨none, .store 1 (.t 7) (.t 17), none, []⟩] .seq)
  (.seq (.region [⟨some 18, .move (.t 6), none, []⟩,
    ⟨some 19, .callF 245 [(.t 18)], none, []⟩,
    ⟨some 8, .move (.t 19), none, []⟩] .seq)
  (.seq (.region [⟨some 20, .move (.t 1), none, []⟩,
    ⟨some 21, .move (.t 6), none, []⟩,
    ⟨some 22, .bin .quo (.t 21) (.c (.int .i64 4)), none, []⟩,
    ⟨some 23, .bin .mul (.t 22) (.c (.int .i64 2)), none, []⟩,
    ⟨some 24, .bin .add (.t 20) (.t 23), none, []⟩,
    ⟨some 25, .bin .sub (.t 24) (.c (.int .i64 1)), none, []⟩,
    ⟨some 9, .move (.t 25), none, []⟩] .seq)
  (.block 0 (.loop (.seq (.seq (.region [⟨some 26, .move (.t 9), none, []⟩,
    ⟨some 27, .move (.t 1), none, []⟩,
    ⟨some 28, .move (.t 6), none, []⟩,
    ⟨some 29, .bin .quo (.t 28) (.c (.int .i64 4)), none, []⟩,
    ⟨some 30, .bin .mul (.t 29) (.c (.int .i64 2)), none, []⟩,
    ⟨some 31, .bin .add (.t 27) (.t 30), none, []⟩,
    ⟨some 32, .bin .add (.t 31) (.c (.int .i64 1)), none, []⟩,
    ⟨some 33, .bin .leq (.t 26) (.t 32), none, []⟩] .seq)
  (.cond (.t 33) .skip
  (.exit 0)))
  (.seq (.block 1 (.seq (.region [⟨some 36, .callF 246 [(.t 7)], none, []⟩,
    ⟨some 37, .move (.t 8), none, []⟩,
    ⟨some 38, .bin .sub (.t 37) (.c (.int .u64 1)), none, []⟩,
    ⟨some 39, .bin .and (.t 36) (.t 38), none, []⟩,
    ⟨some 40, .conv .i64 (.t 39), none, []⟩,
    ⟨some 10, .move (.t 40), none, []⟩] .seq)
  (.seq (.seq (.region [⟨some 41, .move (.t 10), none, []⟩,
    ⟨some 42, .move (.t 6), none, []⟩,
    ⟨some 43, .bin .geq (.t 41) (.t 42), none, []⟩] .seq)
  (.cond (.t 43) (.region [⟨some 44, .move (.t 10), none, []⟩,
    ⟨some 45, .move (.t 6), none, []⟩,
    ⟨some 46, .bin .sub (.t 44) (.t 45), none, []⟩,
    ⟨some 10, .move (.t 46), none, []⟩] .seq)
  .skip))
  (.region [⟨some 47, .move (.t 0), none, []⟩,
    ⟨some 48, .move (.t 9), none, []⟩,
    ⟨some 49, .move (.t 0), none, []⟩,
    ⟨some 50, .move (.t 1), none, []⟩,
    ⟨some 51, .move (.t 10), none, []⟩,
    ⟨some 52, .bin .add (.t 50) (.t 51), none, []⟩,
    ⟨some 53, .move (.t 0), none, []⟩,
    ⟨some 54, .move (.t 1), none, []⟩,
    ⟨some 55, .move (.t 10), none, []⟩,
    ⟨some 56, .bin .add (.t 54) (.t 55), none, []⟩,
    ⟨some 57, .indexAddrS 1 (.t 53) (.t 56), none, []⟩,
    ⟨some 58, .load1 (.t 57), none, [17]⟩,
    ⟨some 59, .move (.t 0), none, []⟩,
    ⟨some 60, .move (.t 9), none, []⟩,
    ⟨some 61, .indexAddrS 1 (.t 59) (.t 60), none, []⟩,
    ⟨some 62, .load1 (.t 61), none, [17]⟩,
    ⟨some 63, .indexAddrS 1 (.t 47) (.t 48), none, []⟩,
    ⟨none, .store 1 (.t 63) (.t 58), none, []⟩,
    ⟨some 64, .indexAddrS 1 (.t 49) (.t 52), none, []⟩,
    ⟨none, .store 1 (.t 64) (.t 62), none, []⟩] .sink))))
  (.region [⟨some 34, .move (.t 9), none, []⟩,
    ⟨some 35, .bin .add (.t 34) (.c (.int .i64 1)), none, []⟩,
    ⟨some 9, .move (.t 35), none, []⟩] .seq))))))))
  .skip)))⟩
/-- slices.choosePivotOrdered[int] -/
def DF222 : AFunc := ⟨57, [.tmp 6, .tmp 7], (.seq (.region [⟨some 6, .move (.c (.int .i64 0)), none, []⟩,
    ⟨some 7, .move (.c (.int .i64 0)), none, []⟩] .seq)
  (.seq (.region [⟨some 13, .move (.t 2), none, []⟩,
    ⟨some 14, .move (.t 1), none, []⟩,
    ⟨some 15, .bin .sub (.t 13) (.t 14), none, []⟩,
    ⟨some 8, .move (.t 15), none, []⟩] .seq)
  (.seq (.region [⟨some 9, .alloc 3 [(.int .i64 0)], none, []⟩] .seq)
  (.seq (.region [⟨some 16, .move (.t 1), none, []⟩,
    ⟨some 17, .move (.t 8), none, []⟩,
    ⟨some 18, .bin .quo (.t 17) (.c (.int .i64 4)), none, []⟩,
    ⟨some 19, .bin .mul (.t 18) (.c (.int .i64 1)), none, []⟩,
    ⟨some 20, .bin .add (.t 16) (.t 19), none, []⟩,
    ⟨some 10, .move (.t 20), none, []⟩] .seq)
  (.seq (.region [⟨some 21, .move (.t 1), none, []⟩,
    ⟨some 22, .move (.t 8), none, []⟩,
    ⟨some 23, .bin .quo (.t 22) (.c (.int .i64 4)), none, []⟩,
    ⟨some 24, .bin .mul (.t 23) (.c (.int .i64 2)), none, []⟩,
    ⟨some 25, .bin .add (.t 21) (.t 24), none, []⟩,
    ⟨some 11, .move (.t 25), none, []⟩] .seq)
  (.seq (.region [⟨some 26, .move (.t 1), none, []⟩,
    ⟨some 27, .move (.t 8), none, []⟩,
    ⟨some 28, .bin .quo (.t 27) (.c (.int .i64 4)), none, []⟩,
    ⟨some 29, .bin .mul (.t 28) (.c (.int .i64 3)), none, []⟩,
    ⟨some 30, .bin .add (.t 26) (.t 29), none, []⟩,
    ⟨some 12, .move (.t 30), none, []⟩] .seq)
  (.seq (.seq (.region [⟨some 31, .move (.t 8), none, []⟩,
    ⟨some 32, .bin .geq (.t 31) (.c (.int .i64 8)), none, []⟩] .seq)
  (.cond (.t 32) (.seq (.seq (.region [⟨some 33, .move (.t 8), none, []⟩,
    ⟨some 34, .bin .geq (.t 33) (.c (.int .i64 50)), none, []⟩] .seq)
  (.cond (.t 34) (.seq (.region [⟨some 35, .move (.t 0), none, []⟩,
    ⟨some 36, .move (.t 10), none, []⟩,
    ⟨some 37, .callF 247 [(.t 35), (.t 36), (.t 9)], none, []⟩,
    ⟨some 10, .move (.t 37), none, []⟩] .seq)
  (.seq (.region [⟨some 38, .move (.t 0), none, []⟩,
    ⟨some 39, .move (.t 11), none, []⟩,
    ⟨some 40, .callF 247 [(.t 38), (.t 39), (.t 9)], none, []⟩,
    ⟨some 11, .move (.t 40), none, []⟩] .seq)
  (.region [⟨some 41, .move (.t 0), none, []⟩,
    ⟨some 42, .move (.t 12), none, []⟩,
    ⟨some 43, .callF 247 [(.t 41), (.t 42), (.t 9)], none, []⟩,
    ⟨some 12, .move (.t 43), none, []⟩] .seq)))
  .skip))
  (.region [⟨some 44, .move (.t 0), none, []⟩,
    ⟨some 45, .move (.t 10), none, []⟩,
    ⟨some 46, .move (.t 11), none, []⟩,
    ⟨some 47, .move (.t 12), none, []⟩,
    ⟨some 48, .callF 248 [(.t 44), (.t 45), (.t 46), (.t 47), (.t 9)], none, []⟩,
    ⟨some 11, .move (.t 48), none, []⟩] .seq))
  .skip))
  (.seq (.region [⟨some 49, .load1 (.t 9), none, []⟩] .seq)
  (.block 0 (.seq (.region [⟨some 52, .bin .eql (.t 49) (.c (.int .i64 0)), none, []⟩,
    ⟨some 51, .move (.t 52), none, []⟩] .seq)
  (.cond (.t 51) (.seq (.region [⟨some 53, .move (.t 11), none, []⟩,
    ⟨some 6, .move (.t 53), none, []⟩,
    ⟨some 7, .move (.c (.int .i64 1)), none, []⟩] .seq)
  .ret)
  (.seq (.region [⟨some 55, .bin .eql (.t 49) (.c (.int .i64 12)), none, []⟩,
    ⟨some 54, .move (.t 55), none, []⟩] .seq)
  (.cond (.t 54) (.seq (.region [⟨some 56, .move (.t 11), none, []⟩,
    ⟨some 6, .move (.t 56), none, []⟩,
    ⟨some 7, .move (.c (.int .i64 2)), none, []⟩] .seq)
  .ret)
  (.seq (.region [⟨some 50, .move (.t 11), none, []⟩,
    ⟨some 6, .move (.t 50), none, []⟩,
    ⟨some 7, .move (.c (.int .i64 0)), none, []⟩] .seq)
  .ret))))))))))))))⟩
/-- slices.reverseRangeOrdered[int] -/
def DF223 : AFunc := ⟨32, [], (.seq (.region [⟨some 8, .move (.t 1), none, []⟩,
    ⟨some 6, .move (.t 8), none, []⟩] .seq)
  (.seq (.region [⟨some 9, .move (.t 2), none, []⟩,
    ⟨some 10, .bin .sub (.t 9) (.c (.int .i64 1)), none, []⟩,
    ⟨some 7, .move (.t 10), none, []⟩] .seq)
  (.block 0 (.loop (.seq (.seq (.region [⟨some 11, .move (.t 6), none, []⟩,
    ⟨some 12, .move (.t 7), none, []⟩,
    ⟨some 13, .bin .lss (.t 11) (.t 12), none, []⟩] .seq)
  (.cond (.t 13) .skip
  (.exit 0)))
  (.block 1 (.seq (.region [⟨some 14, .move (.t 0), none, []⟩,
    ⟨some 15, .move (.t 6), none, []⟩,
    ⟨some 16, .move (.t 0), none, []⟩,
    ⟨some 17, .move (.t 7), none, []⟩,
    ⟨some 18, .move (.t 0), none, []⟩,
    ⟨some 19, .move (.t 7), none, []⟩,
    ⟨some 20, .indexAddrS 1 (.t 18) (.t 19), none, []⟩,
    ⟨some 21, .load1 (.t 20), none, [13]⟩,
    ⟨some 22, .move (.t 0), none, []⟩,
    ⟨some 23, .move (.t 6), none, []⟩,
    ⟨some 24, .indexAddrS 1 (.t 22) (.t 23), none, []⟩,
    ⟨some 25, .load1 (.t 24), none, [13]⟩,
    ⟨some 26, .indexAddrS 1 (.t 14) (.t 15), none, []⟩,
    ⟨none, .store 1 (.t 26) (.t 21), none, []⟩,
    ⟨some 27, .indexAddrS 1 (.t 16) (.t 17), none, []⟩,
    ⟨none, .store 1 (.t 27) (.t 25), none, []⟩] .sink)
  (.seq (.region [⟨some 28, .move (.t 6), none, []⟩,
    ⟨some 29, .bin .add (.t 28) (.c (.int .i64 1)), none, []⟩,
    ⟨some 6, .move (.t 29), none, []⟩] .seq)
  (.region [⟨some 30, .move (.t 7), none, []⟩,
    ⟨some 31, .bin .sub (.t 30) (.c (.int .i64 1)), none, []⟩,
    ⟨some 7, .move (.t 31), none, []⟩] .seq)))))))))⟩
/-- slices.partialInsertionSortOrdered[int] -/
def DF224 : AFunc := ⟨133, [.tmp 6], (.seq (.region [⟨some 6, .move (.c (.bool false)), none, []⟩] .seq)
  (.seq (.region [⟨some 11, .move (.t 1), none, []⟩,
    ⟨some 12, .bin .add (.t 11) (.c (.int .i64 1)), none, []⟩,
    ⟨some 7, .move (.t 12), none, []⟩] .seq)
  (.seq (.seq (.region [⟨some 8, .move (.c (.int .i64 0)), none, []⟩] .seq)
  (.block 0 (.loop (.seq (.seq (.region [⟨some 13, .move (.t 8), none, []⟩,
    ⟨some 14, .bin .lss (.t 13) (.c (.int .i64 5)), none, []⟩] .seq)
  (.cond (.t 14) .skip
  (.exit 0)))
  (.seq (.block 1 (.seq (.block 2 (.loop (.seq (.seq (.region [⟨some 17, .move (.t 7), none, []⟩,
    ⟨some 18, .move (.t 2), none, []⟩,
    ⟨some 19, .bin .lss (.t 17) (.t 18), none, []⟩,
    ⟨some 20, .move (.t 19), none, []⟩,
    ⟨some 21, .move (.t 0), some (20, true), []⟩,
    ⟨some 22, .move (.t 7), some (20, true), []⟩,
    ⟨some 23, .indexAddrS 1 (.t 21) (.t 22), some (20, true), []⟩,
    ⟨some 24, .load1 (.t 23), some (20, true), [13]⟩,
    ⟨some 25, .move (.t 0), some (20, true), []⟩,
    ⟨some 26, .move (.t 7), some (20, true), []⟩,
    ⟨some 27, .bin .sub (.t 26) (.c (.int .i64 1)), some (20, true), []⟩,
    ⟨some 28, .indexAddrS 1 (.t 25) (.t 27), some (20, true), []⟩,
    ⟨some 29, .load1 (.t 28), some (20, true), [13]⟩,
    ⟨some 30, .callF 225 [(.t 24), (.t 29)], some (20, true), []⟩,
    ⟨some 31, .un .not (.t 30), some (20, true), []⟩,
    ⟨some 32, .pick (.t 20) (.t 31) (.c (.bool false)), none, []⟩] .sink)
  (.cond (.t 32) .skip
  (.exit 2)))
  (.block 3 (.region [⟨some 33, .move (.t 7), none, []⟩,
    ⟨some 34, .bin .add (.t 33) (.c (.int .i64 1)), none, []⟩,
    ⟨some 7, .move (.t 34), none, []⟩] .seq)))))
  (.seq (.seq (.region [⟨some 35, .move (.t 7), none, []⟩,
    ⟨some 36, .move (.t 2), none, []⟩,
    ⟨some 37, .bin .eql (.t 35) (.t 36), none, []⟩] .seq)
  (.cond (.t 37) (.seq (.region [⟨some 6, .move (.c (.bool true)), none, []⟩] .seq)
  .ret)
  .skip))
  (.seq (.seq (.region [⟨some 38, .move (.t 2), none, []⟩,
    ⟨some 39, .move (.t 1), none, []⟩,
    ⟨some 40, .bin .sub (.t 38) (.t 39), none, []⟩,
    ⟨some 41, .bin .lss (.t 40) (.c (.int .i64 50)), none, []⟩] .seq)
  (.cond (.t 41) (.seq (.region [⟨some 6, .move (.c (.bool false)), none, []⟩] .seq)
  .ret)
  .skip))
  (.seq (.region [⟨some 42, .move (.t 0), none, []⟩,
    ⟨some 43, .move (.t 7), none, []⟩,
    ⟨some 44, .move (.t 0), none, []⟩,
    ⟨some 45, .move (.t 7), none, []⟩,
    ⟨some 46, .bin .sub (.t 45) (.c (.int .i64 1)), none, []⟩,
    ⟨some 47, .move (.t 0), none, []⟩,
    ⟨some 48, .move (.t 7), none, []⟩,
    ⟨some 49, .bin .sub (.t 48) (.c (.int .i64 1)), none, []⟩,
    ⟨some 50, .indexAddrS 1 (.t 47) (.t 49), none, []⟩,
    ⟨some 51, .load1 (.t 50), none, [15]⟩,
    ⟨some 52, .move (.t 0), none, []⟩,
    ⟨some 53, .move (.t 7), none, []⟩,
    ⟨some 54, .indexAddrS 1 (.t 52) (.t 53), none, []⟩,
    ⟨some 55, .load1 (.t 54), none, [15]⟩,
    ⟨some 56, .indexAddrS 1 (.t 42) (.t 43), none, []⟩,
    ⟨none, .store 1 (.t 56) (.t 51), none, []⟩,
    ⟨some 57, .indexAddrS 1 (.t 44) (.t 46), none, []⟩,
    ⟨none, .store 1 (.t 57) (.t 55), none, []⟩] .sink)
  (.seq (.seq (.region [⟨some 58, .move (.t 7), none, []⟩,
    ⟨some 59, .move (.t 1), none, []⟩,
    ⟨some 60, .bin .sub (.t 58) (.t 59), none, []⟩,
    ⟨some 61, .bin .geq (.t 60) (.c (.int .i64 2)), none, []⟩] .seq)
  (.cond (.t 61) (.seq (.region [⟨some 62, .move (.t 7), none, []⟩,
    ⟨some 63, .bin .sub (.t 62) (.c (.int .i64 1)), none, []⟩,
    ⟨some 9, .move (.t 63), none, []⟩] .seq)
  (.block 4 (.loop (.seq (.seq (.region [⟨some 64, .move (.t 9), none, []⟩,
    ⟨some 65, .bin .geq (.t 64) (.c (.int .i64 1)), none, []⟩] .seq)
  (.cond (.t 65) .skip
  (.exit 4)))
  (.seq (.block 5 (.seq (.seq (.region [⟨some 68, .move (.t 0), none, []⟩,
    ⟨some 69, .move (.t 9), none, []⟩,
    ⟨some 70, .indexAddrS 1 (.t 68) (.t 69), none, []⟩,
    ⟨some 71, .load1 (.t 70), none, [9]⟩,
    ⟨some 72, .move (.t 0), none, []⟩,
    ⟨some 73, .move (.t 9), none, []⟩,
    ⟨some 74, .bin .sub (.t 73) (.c (.int .i64 1)), none, []⟩,
    ⟨some 75, .indexAddrS 1 (.t 72) (.t 74), none, []⟩,
    ⟨some 76, .load1 (.t 75), none, [9]⟩,
    ⟨some 77, .callF 225 [(.t 71), (.t 76)], none, []⟩,
    ⟨some 78, .un .not (.t 77), none, []⟩] .sink)
  (.cond (.t 78) (.exit 4)
  .skip))
  (.region [⟨some 79, .move (.t 0), none, []⟩,
    ⟨some 80, .move (.t 9), none, []⟩,
    ⟨some 81, .move (.t 0), none, []⟩,
    ⟨some 82, .move (.t 9), none, []⟩,
    ⟨some 83, .bin .sub (.t 82) (.c (.int .i64 1)), none, []⟩,
    ⟨some 84, .move (.t 0), none, []⟩,
    ⟨some 85, .move (.t 9), none, []⟩,
    ⟨some 86, .bin .sub (.t 85) (.c (.int .i64 1)), none, []⟩,
    ⟨some 87, .indexAddrS 1 (.t 84) (.t 86), none, []⟩,
    ⟨some 88, .load1 (.t 87), none, [15]⟩,
    ⟨some 89, .move (.t 0), none, []⟩,
    ⟨some 90, .move (.t 9), none, []⟩,
    ⟨some 91, .indexAddrS 1 (.t 89) (.t 90), none, []⟩,
    ⟨some 92, .load1 (.t 91), none, [15]⟩,
    ⟨some 93, .indexAddrS 1 (.t 79) (.t 80), none, []⟩,
    ⟨none, .store 1 (.t 93) (.t 88), none, []⟩,
    ⟨some 94, .indexAddrS 1 (.t 81) (.t 83), none, []⟩,
    ⟨none, .store 1 (.t 94) (.t 92), none, []⟩] .sink)))
  (.region [⟨some 66, .move (.t 9), none, []⟩,
    ⟨some 67, .bin .sub (.t 66) (.c (.int .i64 1)), none, []⟩,
    ⟨some 9, .move (.t 67), none, []⟩] .seq))))))
  .skip))
  (.seq (.region [⟨some 95, .move (.t 2), none, []⟩,
    ⟨some 96, .move (.t 7), none, []⟩,
    ⟨some 97, .bin .sub (.t 95) (.t 96), none, []⟩,
    ⟨some 98, .bin .geq (.t 97) (.c (.int .i64 2)), none, []⟩] .seq)
  (.cond (.t 98) (.seq (.region [⟨some 99, .move (.t 7), none, []⟩,
    ⟨some 100, .bin .add (.t 99) (.c (.int .i64 1)), none, []⟩,
    ⟨some 10, .move (.t 100), none, []⟩] .seq)
  (.block 6 (.loop (.seq (.seq (.region [⟨some 101, .move (.t 10), none, []⟩,
    ⟨some 102, .move (.t 2), none, []⟩,
    ⟨some 103, .bin .lss (.t 101) (.t 102), none, []⟩] .seq)
  (.cond (.t 103) .skip
  (.exit 6)))
  (.seq (.block 7 (.seq (.seq (.region [⟨some 106, .move (.t 0), none, []⟩,
    ⟨some 107, .move (.t 10), none, []⟩,
    ⟨some 108, .indexAddrS 1 (.t 106) (.t 107), none, []⟩,
    ⟨some 109, .load1 (.t 108), none, [9]⟩,
    ⟨some 110, .move (.t 0), none, []⟩,
    ⟨some 111, .move (.t 10), none, []⟩,
    ⟨some 112, .bin .sub (.t 111) (.c (.int .i64 1)), none, []⟩,
    ⟨some 113, .indexAddrS 1 (.t 110) (.t 112), none, []⟩,
    ⟨some 114, .load1 (.t 113), none, [9]⟩,
    ⟨some 115, .callF 225 [(.t 109), (.t 114)], none, []⟩,
    ⟨some 116, .un .not (.t 115), none, []⟩] .sink)
  (.cond (.t 116) (.exit 6)
  .skip))
  (.region [⟨some 117, .move (.t 0), none, []⟩,
    ⟨some 118, .move (.t 10), none, []⟩,
    ⟨some 119, .move (.t 0), none, []⟩,
    ⟨some 120, .move (.t 10), none, []⟩,
    ⟨some 121, .bin .sub (.t 120) (.c (.int .i64 1)), none, []⟩,
    ⟨some 122, .move (.t 0), none, []⟩,
    ⟨some 123, .move (.t 10), none, []⟩,
    ⟨some 124, .bin .sub (.t 123) (.c (.int .i64 1)), none, []⟩,
    ⟨some 125, .indexAddrS 1 (.t 122) (.t 124), none, []⟩,
    ⟨some 126, .load1 (.t 125), none, [15]⟩,
    ⟨some 127, .move (.t 0), none, []⟩,
    ⟨some 128, .move (.t 10), none, []⟩,
    ⟨some 129, .indexAddrS 1 (.t 127) (.t 128), none, []⟩,
    ⟨some 130, .load1 (.t 129), none, [15]⟩,
    ⟨some 131, .indexAddrS 1 (.t 117) (.t 118), none, []⟩,
    ⟨none, .store 1 (.t 131) (.t 126), none, []⟩,
    ⟨some 132, .indexAddrS 1 (.t 119) (.t 121), none, []⟩,
    ⟨none, .store 1 (.t 132) (.t 130), none, []⟩] .sink)))
  (.region [⟨some 104, .move (.t 10), none, []⟩,
    ⟨some 105, .bin .add (.t 104) (.c (.int .i64 1)), none, []⟩,
    ⟨some 10, .move (.t 105), none, []⟩] .seq))))))
  .skip))))))))
  (.region [⟨some 15, .move (.t 8), none, []⟩,
    ⟨some 16, .bin .add (.t 15) (.c (.int .i64 1)), none, []⟩,
    ⟨some 8, .move (.t 16), none, []⟩] .seq))))))
  (.seq (.region [⟨some 6, .move (.c (.bool false)), none, []⟩] .seq)
  .ret))))⟩
/-- cmp.Less[int] -/
def DF225 : AFunc := ⟨17, [.tmp 4], (.seq (.region [⟨some 4, .move (.c (.bool false)), none, []⟩] .seq)
  (.seq (.region [⟨some 5, .move (.t 0), none, []⟩,
    ⟨some 6, .callF 137 [(.t 5)], none, []⟩,
    ⟨some 7, .move (.t 6), none, []⟩,
    ⟨some 8, .move (.t 1), some (7, true), []⟩,
    ⟨some 9, .callF 137 [(.t 8)], some (7, true), []⟩,
    ⟨some 10, .un .not (.t 9), some (7, true), []⟩,
    ⟨some 11, .pick (.t 7) (.t 10) (.c (.bool false)), none, []⟩,
    ⟨some 12, .move (.t 11), none, []⟩,
    ⟨some 13, .move (.t 0), some (12, false), []⟩,
    ⟨some 14, .move (.t 1), some (12, false), []⟩,
    ⟨some 15, .bin .lss (.t 13) (.t 14), some (12, false), []⟩,
    ⟨some 16, .pick (.t 12) (.c (.bool true)) (.t 15), none, []⟩,
    ⟨some 4, .move (.t 16), none, []⟩] .seq)
  .ret))⟩
/-- slices.partitionEqualOrdered[int] -/
def DF226 : AFunc := ⟨84, [.tmp 8], (.seq (.region [⟨some 8, .move (.c (.int .i64 0)), none, []⟩] .seq)
  (.seq (.region [⟨some 11, .move (.t 0), none, []⟩,
    ⟨some 12, .move (.t 1), none, []⟩,
    ⟨some 13, .move (.t 0), none, []⟩,
    ⟨some 14, .move (.t 3), none, []⟩,
    ⟨some 15, .move (.t 0), none, []⟩,
    ⟨some 16, .move (.t 3), none, []⟩,
    ⟨some 17, .indexAddrS 1 (.t 15) (.t 16), none, []⟩,
    ⟨some 18, .load1 (.t 17), none, [13]⟩,
    ⟨some 19, .move (.t 0), none, []⟩,
    ⟨some 20, .move (.t 1), none, []⟩,
    ⟨some 21, .indexAddrS 1 (.t 19) (.t 20), none, []⟩,
    ⟨some 22, .load1 (.t 21), none, [13]⟩,
    ⟨some 23, .indexAddrS 1 (.t 11) (.t 12), none, []⟩,
    ⟨none, .store 1 (.t 23) (.t 18), none, []⟩,
    ⟨some 24, .indexAddrS 1 (.t 13) (.t 14), none, []⟩,
    ⟨none, .store 1 (.t 24) (.t 22), none, []⟩] .sink)
  (.seq (.region [⟨some 25, .move (.t 1), none, []⟩,
    ⟨some 26, .bin .add (.t 25) (.c (.int .i64 1)), none, []⟩,
    ⟨some 27, .move (.t 2), none, []⟩,
    ⟨some 28, .bin .sub (.t 27) (.c (.int .i64 1)), none, []⟩,
    ⟨some 9, .move (.t 26), none, []⟩,
    ⟨some 10, .move (.t 28), none, []⟩] .seq)
  (.seq (.block 0 (.loop (.block 1 (.seq (.block 2 (.loop (.seq (.seq (.region [⟨some 29, .move (.t 9), none, []⟩,
    ⟨some 30, .move (.t 10), none, []⟩,
    ⟨some 31, .bin .leq (.t 29) (.t 30), none, []⟩,
    ⟨some 32, .move (.t 31), none, []⟩,
    ⟨some 33, .move (.t 0), some (32, true), []⟩,
    ⟨some 34, .move (.t 1), some (32, true), []⟩,
    ⟨some 35, .indexAddrS 1 (.t 33) (.t 34), some (32, true), []⟩,
    ⟨some 36, .load1 (.t 35), some (32, true), [12]⟩,
    ⟨some 37, .move (.t 0), some (32, true), []⟩,
    ⟨some 38, .move (.t 9), some (32, true), []⟩,
    ⟨some 39, .indexAddrS 1 (.t 37) (.t 38), some (32, true), []⟩,
    ⟨some 40, .load1 (.t 39), some (32, true), [12]⟩,
    ⟨some 41, .callF 225 [(.t 36), (.t 40)], some (32, true), []⟩,
    ⟨some 42, .un .not (.t 41), some (32, true), []⟩,
    ⟨some 43, .pick (.t 32) (.t 42) (.c (.bool false)), none, []⟩] .sink)
  (.cond (.t 43) .skip
  (.exit 2)))
  (.block 3 (.region [⟨some 44, .move (.t 9), none, []⟩,
    ⟨some 45, .bin .add (.t 44) (.c (.int .i64 1)), none, []⟩,
    ⟨some 9, .move (.t 45), none, []⟩] .seq)))))
  (.seq (.block 4 (.loop (.seq (.seq (.region [⟨some 46, .move (.t 9), none, []⟩,
    ⟨some 47, .move (.t 10), none, []⟩,
    ⟨some 48, .bin .leq (.t 46) (.t 47), none, []⟩,
    ⟨some 49, .move (.t 48), none, []⟩,
    ⟨some 50, .move (.t 0), some (49, true), []⟩,
    ⟨some 51, .move (.t 1), some (49, true), []⟩,
    ⟨some 52, .indexAddrS 1 (.t 50) (.t 51), some (49, true), []⟩,
    ⟨some 53, .load1 (.t 52), some (49, true), [12]⟩,
    ⟨some 54, .move (.t 0), some (49, true), []⟩,
    ⟨some 55, .move (.t 10), some (49, true), []⟩,
    ⟨some 56, .indexAddrS 1 (.t 54) (.t 55), some (49, true), []⟩,
    ⟨some 57, .load1 (.t 56), some (49, true), [12]⟩,
    ⟨some 58, .callF 225 [(.t 53), (.t 57)], some (49, true), []⟩,
    ⟨some 59, .pick (.t 49) (.t 58) (.c (.bool false)), none, []⟩] .sink)
  (.cond (.t 59) .skip
  (.exit 4)))
  (.block 5 (.region [⟨some 60, .move (.t 10), none, []⟩,
    ⟨some 61, .bin .sub (.t 60) (.c (.int .i64 1)), none, []⟩,
    ⟨some 10, .move (.t 61), none, []⟩] .seq)))))
  (.seq (.seq (.region [⟨some 62, .move (.t 9), none, []⟩,
    ⟨some 63, .move (.t 10), none, []⟩,
    ⟨some 64, .bin .gtr (.t 62) (.t 63), none, []⟩] .seq)
  (.cond (.t 64) (.exit 0)
  .skip))
  (.seq (.region [⟨some 65, .move (.t 0), none, []⟩,
    ⟨some 66, .move (.t 9), none, []⟩,
    ⟨some 67, .move (.t 0), none, []⟩,
    ⟨some 68, .move (.t 10), none, []⟩,
    ⟨some 69, .move (.t 0), none, []⟩,
    ⟨some 70, .move (.t 10), none, []⟩,
    ⟨some 71, .indexAddrS 1 (.t 69) (.t 70), none, []⟩,
    ⟨some 72, .load1 (.t 71), none, [13]⟩,
    ⟨some 73, .move (.t 0), none, []⟩,
    ⟨some 74, .move (.t 9), none, []⟩,
    ⟨some 75, .indexAddrS 1 (.t 73) (.t 74), none, []⟩,
    ⟨some 76, .load1 (.t 75), none, [13]⟩,
    ⟨some 77, .indexAddrS 1 (.t 65) (.t 66), none, []⟩,
    ⟨none, .store 1 (.t 77) (.t 72), none, []⟩,
    ⟨some 78, .indexAddrS 1 (.t 67) (.t 68), none, []⟩,
    ⟨none, .store 1 (.t 78) (.t 76), none, []⟩] .sink)
  (.seq (.region [⟨some 79, .move (.t 9), none, []⟩,
    ⟨some 80, .bin .add (.t 79) (.c (.int .i64 1)), none, []⟩,
    ⟨some 9, .move (.t 80), none, []⟩] .seq)
  (.region [⟨some 81, .move (.t 10), none, []⟩,
    ⟨some 82, .bin .sub (.t 81) (.c (.int .i64 1)), none, []⟩,
    ⟨some 10, .move (.t 82), none, []⟩] .seq)))))))))
  (.seq (.region [⟨some 83, .move (.t 9), none, []⟩,
    ⟨some 8, .move (.t 83), none, []⟩] .seq)
  .ret)))))⟩
/-- slices.partitionOrdered[int] -/
def DF227 : AFunc := ⟨168, [.tmp 8, .tmp 9], (.seq (.region [⟨some 8, .move (.c (.int .i64 0)), none, []⟩,
    ⟨some 9, .move (.c (.bool false)), none, []⟩] .seq)
  (.seq (.region [⟨some 12, .move (.t 0), none, []⟩,
    ⟨some 13, .move (.t 1), none, []⟩,
    ⟨some 14, .move (.t 0), none, []⟩,
    ⟨some 15, .move (.t 3), none, []⟩,
    ⟨some 16, .move (.t 0), none, []⟩,
    ⟨some 17, .move (.t 3), none, []⟩,
    ⟨some 18, .indexAddrS 1 (.t 16) (.t 17), none, []⟩,
    ⟨some 19, .load1 (.t 18), none, [13]⟩,
    ⟨some 20, .move (.t 0), none, []⟩,
    ⟨some 21, .move (.t 1), none, []⟩,
    ⟨some 22, .indexAddrS 1 (.t 20) (.t 21), none, []⟩,
    ⟨some 23, .load1 (.t 22), none, [13]⟩,
    ⟨some 24, .indexAddrS 1 (.t 12) (.t 13), none, []⟩,
    ⟨none, .store 1 (.t 24) (.t 19), none, []⟩,
    ⟨some 25, .indexAddrS 1 (.t 14) (.t 15), none, []⟩,
    ⟨none, .store 1 (.t 25) (.t 23), none, []⟩] .sink)
  (.seq (.region [⟨some 26, .move (.t 1), none, []⟩,
    ⟨some 27, .bin .add (.t 26) (.c (.int .i64 1)), none, []⟩,
    ⟨some 28, .move (.t 2), none, []⟩,
    ⟨some 29, .bin .sub (.t 28) (.c (.int .i64 1)), none, []⟩,
    ⟨some 10, .move (.t 27), none, []⟩,
    ⟨some 11, .move (.t 29), none, []⟩] .seq)
  (.seq (.block 0 (.loop (.seq (.seq (.region [⟨some 30, .move (.t 10), none, []⟩,
    ⟨some 31, .move (.t 11), none, []⟩,
    ⟨some 32, .bin .leq (.t 30) (.t 31), none, []⟩,
    ⟨some 33, .move (.t 32), none, []⟩,
    ⟨some 34, .move (.t 0), some (33, true), []⟩,
    ⟨some 35, .move (.t 10), some (33, true), []⟩,
    ⟨some 36, .indexAddrS 1 (.t 34) (.t 35), some (33, true), []⟩,
    ⟨some 37, .load1 (.t 36), some (33, true), [12]⟩,
    ⟨some 38, .move (.t 0), some (33, true), []⟩,
    ⟨some 39, .move (.t 1), some (33, true), []⟩,
    ⟨some 40, .indexAddrS 1 (.t 38) (.t 39), some (33, true), []⟩,
    ⟨some 41, .load1 (.t 40), some (33, true), [12]⟩,
    ⟨some 42, .callF 225 [(.t 37), (.t 41)], some (33, true), []⟩,
    ⟨some 43, .pick (.t 33) (.t 42) (.c (.bool false)), none, []⟩] .sink)
  (.cond (.t 43) .skip
  (.exit 0)))
  (.block 1 (.region [⟨some 44, .move (.t 10), none, []⟩,
    ⟨some 45, .bin .add (.t 44) (.c (.int .i64 1)), none, []⟩,
    ⟨some 10, .move (.t 45), none, []⟩] .seq)))))
  (.seq (.block 2 (.loop (.seq (.seq (.region [⟨some 46, .move (.t 10), none, []⟩,
    ⟨some 47, .move (.t 11), none, []⟩,
    ⟨some 48, .bin .leq (.t 46) (.t 47), none, []⟩,
    ⟨some 49, .move (.t 48), none, []⟩,
    ⟨some 50, .move (.t 0), some (49, true), []⟩,
    ⟨some 51, .move (.t 11), some (49, true), []⟩,
    ⟨some 52, .indexAddrS 1 (.t 50) (.t 51), some (49, true), []⟩,
    ⟨some 53, .load1 (.t 52), some (49, true), [12]⟩,
    ⟨some 54, .move (.t 0), some (49, true), []⟩,
    ⟨some 55, .move (.t 1), some (49, true), []⟩,
    ⟨some 56, .indexAddrS 1 (.t 54) (.t 55), some (49, true), []⟩,
    ⟨some 57, .load1 (.t 56), some (49, true), [12]⟩,
    ⟨some 58, .callF 225 [(.t 53), (.t 57)], some (49, true), []⟩,
    ⟨some 59, .un .not (.t 58), some (49, true), []⟩,
    ⟨some 60, .pick (.t 49) (.t 59) (.c (.bool false)), none, []⟩] .sink)
  (.cond (.t 60) .skip
  (.exit 2)))
  (.block 3 (.region [⟨some 61, .move (.t 11), none, []⟩,
    ⟨some 62, .bin .sub (.t 61) (.c (.int .i64 1)), none, []⟩,
    ⟨some 11, .move (.t 62), none, []⟩] .seq)))))
  (.seq (.seq (.region [⟨some 63, .move (.t 10), none, []⟩,
    ⟨some 64, .move (.t 11), none, []⟩,
    ⟨some 65, .bin .gtr (.t 63) (.t 64), none, []⟩] .seq)
  (.cond (.t 65) (.seq (.region [⟨some 66, .move (.t 0), none, []⟩,
    ⟨some 67, .move (.t 11), none, []⟩,
    ⟨some 68, .move (.t 0), none, []⟩,
    ⟨some 69, .move (.t 1), none, []⟩,
    ⟨some 70, .move (.t 0), none, []⟩,
    ⟨some 71, .move (.t 1), none, []⟩,
    ⟨some 72, .indexAddrS 1 (.t 70) (.t 71), none, []⟩,
    ⟨some 73, .load1 (.t 72), none, [13]⟩,
    ⟨some 74, .move (.t 0), none, []⟩,
    ⟨some 75, .move (.t 11), none, []⟩,
    ⟨some 76, .indexAddrS 1 (.t 74) (.t 75), none, []⟩,
    ⟨some 77, .load1 (.t 76), none, [13]⟩,
    ⟨some 78, .indexAddrS 1 (.t 66) (.t 67), none, []⟩,
    ⟨none, .store 1 (.t 78) (.t 73), none, []⟩,
    ⟨some 79, .indexAddrS 1 (.t 68) (.t 69), none, []⟩,
    ⟨none, .store 1 (.t 79) (.t 77), none, []⟩] .sink)
  (.seq (.region [⟨some 80, .move (.t 11), none, []⟩,
    ⟨some 8, .move (.t 80), none, []⟩,
    ⟨some 9, .move (.c (.bool true)), none, []⟩] .seq)
  .ret))
  .skip))
  (.seq (.region [⟨some 81, .move (.t 0), none, []⟩,
    ⟨some 82, .move (.t 10), none, []⟩,
    ⟨some 83, .move (.t 0), none, []⟩,
    ⟨some 84, .move (.t 11), none, []⟩,
    ⟨some 85, .move (.t 0), none, []⟩,
    ⟨some 86, .move (.t 11), none, []⟩,
    ⟨some 87, .indexAddrS 1 (.t 85) (.t 86), none, []⟩,
    ⟨some 88, .load1 (.t 87), none, [13]⟩,
    ⟨some 89, .move (.t 0), none, []⟩,
    ⟨some 90, .move (.t 10), none, []⟩,
    ⟨some 91, .indexAddrS 1 (.t 89) (.t 90), none, []⟩,
    ⟨some 92, .load1 (.t 91), none, [13]⟩,
    ⟨some 93, .indexAddrS 1 (.t 81) (.t 82), none, []⟩,
    ⟨none, .store 1 (.t 93) (.t 88), none, []⟩,
    ⟨some 94, .indexAddrS 1 (.t 83) (.t 84), none, []⟩,
    ⟨none, .store 1 (.t 94) (.t 92), none, []⟩] .sink)
  (.seq (.region [⟨some 95, .move (.t 10), none, []⟩,
    ⟨some 96, .bin .add (.t 95) (.c (.int .i64 1)), none, []⟩,
    ⟨some 10, .move (.t 96), none, []⟩] .seq)
  (.seq (.region [⟨some 97, .move (.t 11), none, []⟩,
    ⟨some 98, .bin .sub (.t 97) (.c (.int .i64 1)), none, []⟩,
    ⟨some 11, .move (.t 98), none, []⟩] .seq)
  (.seq (.block 4 (.loop (.block 5 (.seq (.block 6 (.loop (.seq (.seq (.region [⟨some 99, .move (.t 10), none, []⟩,
    ⟨some 100, .move (.t 11), none, []⟩,
    ⟨some 101, .bin .leq (.t 99) (.t 100), none, []⟩,
    ⟨some 102, .move (.t 101), none, []⟩,
    ⟨some 103, .move (.t 0), some (102, true), []⟩,
    ⟨some 104, .move (.t 10), some (102, true), []⟩,
    ⟨some 105, .indexAddrS 1 (.t 103) (.t 104), some (102, true), []⟩,
    ⟨some 106, .load1 (.t 105), some (102, true), [12]⟩,
    ⟨some 107, .move (.t 0), some (102, true), []⟩,
    ⟨some 108, .move (.t 1), some (102, true), []⟩,
    ⟨some 109, .indexAddrS 1 (.t 107) (.t 108), some (102, true), []⟩,
    ⟨some 110, .load1 (.t 109), some (102, true), [12]⟩,
    ⟨some 111, .callF 225 [(.t 106), (.t 110)], some (102, true), []⟩,
    ⟨some 112, .pick (.t 102) (.t 111) (.c (.bool false)), none, []⟩] .sink)
  (.cond (.t 112) .skip
  (.exit 6)))
  (.block 7 (.region [⟨some 113, .move (.t 10), none, []⟩,
    ⟨some 114, .bin .add (.t 113) (.c (.int .i64 1)), none, []⟩,
    ⟨some 10, .move (.t 114), none, []⟩] .seq)))))
  (.seq (.block 8 (.loop (.seq (.seq (.region [⟨some 115, .move (.t 10), none, []⟩,
    ⟨some 116, .move (.t 11), none, []⟩,
    ⟨some 117, .bin .leq (.t 115) (.t 116), none, []⟩,
    ⟨some 118, .move (.t 117), none, []⟩,
    ⟨some 119, .move (.t 0), some (118, true), []⟩,
    ⟨some 120, .move (.t 11), some (118, true), []⟩,
    ⟨some 121, .indexAddrS 1 (.t 119) (.t 120), some (118, true), []⟩,
    ⟨some 122, .load1 (.t 121), some (118, true), [12]⟩,
    ⟨some 123, .move (.t 0), some (118, true), []⟩,
    ⟨some 124, .move (.t 1), some (118, true), []⟩,
    ⟨some 125, .indexAddrS 1 (.t 123) (.t 124), some (118, true), []⟩,
    ⟨some 126, .load1 (.t 125), some (118, true), [12]⟩,
    ⟨some 127, .callF 225 [(.t 122), (.t 126)], some (118, true), []⟩,
    ⟨some 128, .un .not (.t 127), some (118, true), []⟩,
    ⟨some 129, .pick (.t 118) (.t 128) (.c (.bool false)), none, []⟩] .sink)
  (.cond (.t 129) .skip
  (.exit 8)))
  (.block 9 (.region [⟨some 130, .move (.t 11), none, []⟩,
    ⟨some 131, .bin .sub (.t 130) (.c (.int .i64 1)), none, []⟩,
    ⟨some 11, .move (.t 131), none, []⟩] .seq)))))
  (.seq (.seq (.region [⟨some 132, .move (.t 10), none, []⟩,
    ⟨some 133, .move (.t 11), none, []⟩,
    ⟨some 134, .bin .gtr (.t 132) (.t 133), none, []⟩] .seq)
  (.cond (.t 134) (.exit 4)
  .skip))
  (.seq (.region [⟨some 135, .move (.t 0), none, []⟩,
    ⟨some 136, .move (.t 10), none, []⟩,
    ⟨some 137, .move (.t 0), none, []⟩,
    ⟨some 138, .move (.t 11), none, []⟩,
    ⟨some 139, .move (.t 0), none, []⟩,
    ⟨some 140, .move (.t 11), none, []⟩,
    ⟨some 141, .indexAddrS 1 (.t 139) (.t 140), none, []⟩,
    ⟨some 142, .load1 (.t 141), none, [13]⟩,
    ⟨some 143, .move (.t 0), none, []⟩,
    ⟨some 144, .move (.t 10), none, []⟩,
    ⟨some 145, .indexAddrS 1 (.t 143) (.t 144), none, []⟩,
    ⟨some 146, .load1 (.t 145), none, [13]⟩,
    ⟨some 147, .indexAddrS 1 (.t 135) (.t 136), none, []⟩,
    ⟨none, .store 1 (.t 147) (.t 142), none, []⟩,
    ⟨some 148, .indexAddrS 1 (.t 137) (.t 138), none, []⟩,
    ⟨none, .store 1 (.t 148) (.t 146), none, []⟩] .sink)
  (.seq (.region [⟨some 149, .move (.t 10), none, []⟩,
    ⟨some 150, .bin .add (.t 149) (.c (.int .i64 1)), none, []⟩,
    ⟨some 10, .move (.t 150), none, []⟩] .seq)
  (.region [⟨some 151, .move (.t 11), none, []⟩,
    ⟨some 152, .bin .sub (.t 151) (.c (.int .i64 1)), none, []⟩,
    ⟨some 11, .move (.t 152), none, []⟩] .seq)))))))))
  (.seq (.region [⟨some 153, .move (.t 0), none, []⟩,
    ⟨some 154, .move (.t 11), none, []⟩,
    ⟨some 155, .move (.t 0), none, []⟩,
    ⟨some 156, .move (.t 1), none, []⟩,
    ⟨some 157, .move (.t 0), none, []⟩,
    ⟨some 158, .move (.t 1), none, []⟩,
    ⟨some 159, .indexAddrS 1 (.t 157) (.t 158), none, []⟩,
    ⟨some 160, .load1 (.t 159), none, [13]⟩,
    ⟨some 161, .move (.t 0), none, []⟩,
    ⟨some 162, .move (.t 11), none, []⟩,
    ⟨some 163, .indexAddrS 1 (.t 161) (.t 162), none, []⟩,
    ⟨some 164, .load1 (.t 163), none, [13]⟩,
    ⟨some 165, .indexAddrS 1 (.t 153) (.t 154), none, []⟩,
    ⟨none, .store 1 (.t 165) (.t 160), none, []⟩,
    ⟨some 166, .indexAddrS 1 (.t 155) (.t 156), none, []⟩,
    ⟨none, .store 1 (.t 166) (.t 164), none, []⟩] .sink)
  (.seq (.region [⟨some 167, .move (.t 11), none, []⟩,
    ⟨some 8, .move (.t 167), none, []⟩,
    ⟨some 9, .move (.c (.bool false)), none, []⟩] .seq)
  .ret))))))))))))⟩
/-- math/bits.Len32 -/
def DF228 : AFunc := ⟨19, [.tmp 2], (.seq (.region [⟨some 2, .move (.c (.int .i64 0)), none, []⟩] .seq)
  (.seq (.seq (.region [⟨some 3, .move (.t 0), none, []⟩,
    ⟨some 4, .bin .geq (.t 3) (.c (.int .u32 65536)), none, []⟩] .seq)
  (.cond (.t 4) (.seq (.region [⟨some 5, .move (.t 0), none, []⟩,
    ⟨some 6, .bin .shr (.t 5) (.c (.int .u64 16)), none, []⟩,
    ⟨some 0, .move (.t 6), none, []⟩] .seq)
  (.region [⟨some 2, .move (.c (.int .i64 16)), none, []⟩] .seq))
  .skip))
  (.seq (.seq (.region [⟨some 7, .move (.t 0), none, []⟩,
    ⟨some 8, .bin .geq (.t 7) (.c (.int .u32 256)), none, []⟩] .seq)
  (.cond (.t 8) (.seq (.region [⟨some 9, .move (.t 0), none, []⟩,
    ⟨some 10, .bin .shr (.t 9) (.c (.int .u64 8)), none, []⟩,
    ⟨some 0, .move (.t 10), none, []⟩] .seq)
  (.region [⟨some 11, .move (.t 2), none, []⟩,
    ⟨some 12, .bin .add (.t 11) (.c (.int .i64 8)), none, []⟩,
    ⟨some 2, .move (.t 12), none, []⟩] .seq))
  .skip))
  (.seq (.region [⟨some 13, .move (.t 2), none, []⟩,
    ⟨some 14, .move (.t 0), none, []⟩,
    ⟨some 15, .conv .u8 (.t 14), none, []⟩,
    ⟨some 16, .indexStr (.c (.str ⟨#[0, 1, 2, 2, 3, 3, 3, 3, 4, 4, 4, 4, 4, 4, 4, 4, 5, 5, 5, 5, 5, 5, 5, 5, 5, 5, 5, 5, 5, 5, 5, 5, 6, 6, 6, 6, 6, 6, 6, 6, 6, 6, 6, 6, 6, 6, 6, 6, 6, 6, 6, 6, 6, 6, 6, 6, 6, 6, 6, 6, 6, 6, 6, 6, 7, 7, 7, 7, 7, 7, 7, 7, 7, 7, 7, 7, 7, 7, 7, 7, 7, 7, 7, 7, 7, 7, 7, 7, 7, 7, 7, 7, 7, 7, 7, 7, 7, 7, 7, 7, 7, 7, 7, 7, 7, 7, 7, 7, 7, 7, 7, 7, 7, 7, 7, 7, 7, 7, 7, 7, 7, 7, 7, 7, 7, 7, 7, 7, 8, 8, 8, 8, 8, 8, 8, 8, 8, 8, 8, 8, 8, 8, 8, 8, 8, 8, 8, 8, 8, 8, 8, 8, 8, 8, 8, 8, 8, 8, 8, 8, 8, 8, 8, 8, 8, 8, 8, 8, 8, 8, 8, 8, 8, 8, 8, 8, 8, 8, 8, 8, 8, 8, 8, 8, 8, 8, 8, 8, 8, 8, 8, 8, 8, 8, 8, 8, 8, 8, 8, 8, 8, 8, 8, 8, 8, 8, 8, 8, 8, 8, 8, 8, 8, 8, 8, 8, 8, 8, 8, 8, 8, 8, 8, 8, 8, 8, 8, 8, 8, 8, 8, 8, 8, 8, 8, 8, 8, 8, 8, 8, 8, 8, 8, 8, 8, 8, 8, 8, 8, 8, 8, 8, 8, 8, 8, 8]⟩)) (.t 15), none, []⟩,
    ⟨some 17, .conv .i64 (.t 16), none, []⟩,
    ⟨some 18, .bin .add (.t 13) (.t 17), none, []⟩,
    ⟨some 2, .move (.t 18), none, []⟩] .seq)
  .ret))))⟩
/-- math/bits.Len64 -/
def DF229 : AFunc := ⟨25, [.tmp 2], (.seq (.region [⟨some 2, .move (.c (.int .i64 0)), none, []⟩] .seq)
  (.seq (.seq (.region [⟨some 3, .move (.t 0), none, []⟩,
    ⟨some 4, .bin .geq (.t 3) (.c (.int .u64 4294967296)), none, []⟩] .seq)
  (.cond (.t 4) (.seq (.region [⟨some 5, .move (.t 0), none, []⟩,
    ⟨some 6, .bin .shr (.t 5) (.c (.int .u64 32)), none, []⟩,
    ⟨some 0, .move (.t 6), none, []⟩] .seq)
  (.region [⟨some 2, .move (.c (.int .i64 32)), none, []⟩] .seq))
  .skip))
  (.seq (.seq (.region [⟨some 7, .move (.t 0), none, []⟩,
    ⟨some 8, .bin .geq (.t 7) (.c (.int .u64 65536)), none, []⟩] .seq)
  (.cond (.t 8) (.seq (.region [⟨some 9, .move (.t 0), none, []⟩,
    ⟨some 10, .bin .shr (.t 9) (.c (.int .u64 16)), none, []⟩,
    ⟨some 0, .move (.t 10), none, []⟩] .seq)
  (.region [⟨some 11, .move (.t 2), none, []⟩,
    ⟨some 12, .bin .add (.t 11) (.c (.int .i64 16)), none, []⟩,
    ⟨some 2, .move (.t 12), none, []⟩] .seq))
  .skip))
  (.seq (.seq (.region [⟨some 13, .move (.t 0), none, []⟩,
    ⟨some 14, .bin .geq (.t 13) (.c (.int .u64 256)), none, []⟩] .seq)
  (.cond (.t 14) (.seq (.region [⟨some 15, .move (.t 0), none, []⟩,
    ⟨some 16, .bin .shr (.t 15) (.c (.int .u64 8)), none, []⟩,
    ⟨some 0, .move (.t 16), none, []⟩] .seq)
  (.region [⟨some 17, .move (.t 2), none, []⟩,
    ⟨some 18, .bin .add (.t 17) (.c (.int .i64 8)), none, []⟩,
    ⟨some 2, .move (.t 18), none, []⟩] .seq))
  .skip))
  (.seq (.region [⟨some 19, .move (.t 2), none, []⟩,
    ⟨some 20, .move (.t 0), none, []⟩,
    ⟨some 21, .conv .u8 (.t 20), none, []⟩,
    ⟨some 22, .indexStr (.c (.str ⟨#[0, 1, 2, 2, 3, 3, 3, 3, 4, 4, 4, 4, 4, 4, 4, 4, 5, 5, 5, 5, 5, 5, 5, 5, 5, 5, 5, 5, 5, 5, 5, 5, 6, 6, 6, 6, 6, 6, 6, 6, 6, 6, 6, 6, 6, 6, 6, 6, 6, 6, 6, 6, 6, 6, 6, 6, 6, 6, 6, 6, 6, 6, 6, 6, 7, 7, 7, 7, 7, 7, 7, 7, 7, 7, 7, 7, 7, 7, 7, 7, 7, 7, 7, 7, 7, 7, 7, 7, 7, 7, 7, 7, 7, 7, 7, 7, 7, 7, 7, 7, 7, 7, 7, 7, 7, 7, 7, 7, 7, 7, 7, 7, 7, 7, 7, 7, 7, 7, 7, 7, 7, 7, 7, 7, 7, 7, 7, 7, 8, 8, 8, 8, 8, 8, 8, 8, 8, 8, 8, 8, 8, 8, 8, 8, 8, 8, 8, 8, 8, 8, 8, 8, 8, 8, 8, 8, 8, 8, 8, 8, 8, 8, 8, 8, 8, 8, 8, 8, 8, 8, 8, 8, 8, 8, 8, 8, 8, 8, 8, 8, 8, 8, 8, 8, 8, 8, 8, 8, 8, 8, 8, 8, 8, 8, 8, 8, 8, 8, 8, 8, 8, 8, 8, 8, 8, 8, 8, 8, 8, 8, 8, 8, 8, 8, 8, 8, 8, 8, 8, 8, 8, 8, 8, 8, 8, 8, 8, 8, 8, 8, 8, 8, 8, 8, 8, 8, 8, 8, 8, 8, 8, 8, 8, 8, 8, 8, 8, 8, 8, 8, 8, 8, 8, 8, 8, 8]⟩)) (.t 21), none, []⟩,
    ⟨some 23, .conv .i64 (.t 22), none, []⟩,
    ⟨some 24, .bin .add (.t 19) (.t 23), none, []⟩,
    ⟨some 2, .move (.t 24), none, []⟩] .seq)
  .ret)))))⟩
/-- anabranch/win.Gather -/
def DF230 : AFunc := ⟨51, [.tmp 2], (.seq (.region [⟨some 2, .move (.c .sl0), none, []⟩] .seq)
  (.seq (.region [⟨some 8, .move (.t 0), none, []⟩,
    ⟨some 9, .callF 250 [(.t 8)], none, []⟩,
    ⟨some 10, .callF 249 [(.t 9), (.c (.fn 251 [] []))], none, []⟩,
    ⟨some 3, .move (.t 10), none, []⟩] .seq)
  (.seq (.region [⟨some 11, .move (.t 3), none, []⟩,
    ⟨some 12, .callF 252 [(.t 11), (.c (.fn 253 [] []))], none, []⟩] .seq)
  (.seq (.region [⟨some 13, .move (.t 3), none, []⟩,
    ⟨some 14, .callF 255 [(.t 13), (.c (.fn 256 [] []))], none, []⟩,
    ⟨some 3, .move (.t 14), none, []⟩] .seq)
  (.seq (.region [⟨some 4, .move (.c .sl0), none, []⟩] .seq)
  (.seq (.seq (.region [⟨some 15, .move (.t 3), none, []⟩,
    ⟨some 16, .len .sl (.t 15), none, []⟩,
    ⟨some 17, .move (.c (.int .i64 0)), none, []⟩] .seq)
  (.block 0 (.loop (.seq (.region [⟨some 18, .bin .lss (.t 17) (.t 16), none, []⟩] .seq)
  (.seq (.cond (.t 18) .skip
  (.exit 0))
  (.seq (.block 1 (.seq (.region [⟨some 19, .indexAddrS 2 (.t 15) (.t 17), none, []⟩,
    ⟨some 20, .loadN 2 (.t 19), none, []⟩,
    ⟨some 6, .alloc 96 [(.int .i64 0), (.int .i64 0)], none, []⟩,
    ⟨none, .store 2 (.t 6) (.t 20), none, []⟩] .seq)
  (.seq (.region [⟨some 21, .move (.t 4), none, []⟩,
    ⟨some 22, .len .sl (.t 21), none, []⟩,
    ⟨some 23, .bin .sub (.t 22) (.c (.int .i64 1)), none, []⟩,
    ⟨some 7, .move (.t 23), none, []⟩] .seq)
  (.seq (.region [⟨some 24, .move (.t 7), none, []⟩,
    ⟨some 25, .bin .geq (.t 24) (.c (.int .i64 0)), none, []⟩,
    ⟨some 26, .move (.t 25), none, []⟩,
    ⟨some 27, .indexAddrA 2 1 (.t 6) (.c (.int .i64 0)), some (26, true), []⟩,
    ⟨some 28, .load1 (.t 27), some (26, true), [12]⟩,
    ⟨some 29, .move (.t 4), some (26, true), []⟩,
    ⟨some 30, .move (.t 7), some (26, true), []⟩,
    ⟨some 31, .indexAddrS 2 (.t 29) (.t 30), some (26, true), []⟩,
    ⟨some 32, .indexAddrA 2 1 (.t 31) (.c (.int .i64 1)), some (26, true), []⟩,
    ⟨some 33, .load1 (.t 32), some (26, true), [12]⟩,
    ⟨some 34, .bin .lss (.t 28) (.t 33), some (26, true), []⟩,
    ⟨some 35, .pick (.t 26) (.t 34) (.c (.bool false)), none, []⟩] .sink)
  (.cond (.t 35) (.region [⟨some 36, .move (.t 4), none, []⟩,
    ⟨some 37, .move (.t 7), none, []⟩,
    ⟨some 38, .move (.t 4), none, []⟩,
    ⟨some 39, .move (.t 7), none, []⟩,
    ⟨some 40, .indexAddrS 2 (.t 38) (.t 39), none, []⟩,
    ⟨some 41, .loadN 2 (.t 40), none, [7]⟩,
    ⟨some 42, .loadN 2 (.t 6), none, [7]⟩,
    ⟨some 43, .callF 101 [(.t 41), (.t 42)], none, []⟩,
    ⟨some 44, .indexAddrS 2 (.t 36) (.t 37), none, []⟩,
    ⟨none, .store 2 (.t 44) (.t 43), none, []⟩] .sink)
  (.region [⟨some 45, .move (.t 4), none, []⟩,
    ⟨some 46, .loadN 2 (.t 6), none, []⟩,
    ⟨some 47, .buildSlice 96 1 2 [(.int .i64 0), (.int .i64 0)] [(0, 2, (.t 46))], none, []⟩,
    ⟨some 48, .append 96 2 16 [(.int .i64 0), (.int .i64 0)] (.t 45) (.t 47), none, []⟩,
    ⟨some 4, .move (.t 48), none, []⟩] .seq))))))
  (.region [⟨some 49, .bin .add (.t 17) (.c (.int .i64 1)), none, []⟩,
    ⟨some 17, .move (.t 49), none, []⟩] .seq)))))))
  (.seq (.region [⟨some 50, .move (.t 4), none, []⟩,
    ⟨some 2, .move (.t 50), none, []⟩] .seq)
  .ret)))))))⟩
/-- slices.IndexFunc[[][2]int64,[2]int64] -/
def DF231 : AFunc := ⟨19, [.tmp 4], (.seq (.region [⟨some 4, .move (.c (.int .i64 0)), none, []⟩] .seq)
  (.seq (.seq (.region [⟨some 6, .move (.t 0), none, []⟩,
    ⟨some 7, .len .sl (.t 6), none, []⟩,
    ⟨some 8, .move (.c (.int .i64 0)), none, []⟩] .seq)
  (.block 0 (.loop (.seq (.region [⟨some 9, .bin .lss (.t 8) (.t 7), none, []⟩] .seq)
  (.seq (.cond (.t 9) .skip
  (.exit 0))
  (.seq (.block 1 (.seq (.region [⟨some 10, .move (.t 8), none, []⟩,
    ⟨some 5, .move (.t 10), none, []⟩] .seq)
  (.seq (.region [⟨some 11, .move (.t 1), none, []⟩,
    ⟨some 12, .move (.t 0), none, []⟩,
    ⟨some 13, .move (.t 5), none, []⟩,
    ⟨some 14, .indexAddrS 2 (.t 12) (.t 13), none, []⟩,
    ⟨some 15, .loadN 2 (.t 14), none, []⟩,
    ⟨some 16, .callV (.t 11) [(.t 15)], none, []⟩] .seq)
  (.cond (.t 16) (.seq (.region [⟨some 17, .move (.t 5), none, []⟩,
    ⟨some 4, .move (.t 17), none, []⟩] .seq)
  .ret)
  .skip))))
  (.region [⟨some 18, .bin .add (.t 8) (.c (.int .i64 1)), none, []⟩,
    ⟨some 8, .move (.t 18), none, []⟩] .seq)))))))
  (.seq (.region [⟨some 4, .move (.c (.int .i64 (-1))), none, []⟩] .seq)
  .ret)))⟩
/-- anabranch/denot.gathered$1 -/
def DF232 : AFunc := ⟨8, [.tmp 3], (.seq (.region [⟨some 2, .box 96 (.t 0), none, []⟩,
    ⟨some 3, .move (.c (.bool false)), none, []⟩] .seq)
  (.seq (.region [⟨some 4, .fieldAddr 0 (.t 1), none, []⟩,
    ⟨some 5, .loadN 2 (.t 4), none, []⟩,
    ⟨some 6, .loadN 2 (.t 2), none, []⟩,
    ⟨some 7, .callF 99 [(.t 5), (.t 6)], none, []⟩,
    ⟨some 3, .move (.t 7), none, []⟩] .seq)
  .ret))⟩
/-- slices.insertionSortCmpFunc[anabranch/api.Rec] -/
def DF239 : AFunc := ⟨53, [], (.seq (.region [⟨some 10, .move (.t 1), none, []⟩,
    ⟨some 11, .bin .add (.t 10) (.c (.int .i64 1)), none, []⟩,
    ⟨some 8, .move (.t 11), none, []⟩] .seq)
  (.block 0 (.loop (.seq (.seq (.region [⟨some 12, .move (.t 8), none, []⟩,
    ⟨some 13, .move (.t 2), none, []⟩,
    ⟨some 14, .bin .lss (.t 12) (.t 13), none, []⟩] .seq)
  (.cond (.t 14) .skip
  (.exit 0)))
  (.seq (.block 1 (.seq (.region [⟨some 17, .move (.t 8), none, []⟩,
    ⟨some 9, .move (.t 17), none, []⟩] .seq)
  (.block 2 (.loop (.seq (.seq (.region [⟨some 18, .move (.t 9), none, []⟩,
    ⟨some 19, .move (.t 1), none, []⟩,
    ⟨some 20, .bin .gtr (.t 18) (.t 19), none, []⟩,
    ⟨some 21, .move (.t 20), none, []⟩,
    ⟨some 22, .move (.t 3), some (21, true), []⟩,
    ⟨some 23, .move (.t 0), some (21, true), []⟩,
    ⟨some 24, .move (.t 9), some (21, true), []⟩,
    ⟨some 25, .indexAddrS 6 (.t 23) (.t 24), some (21, true), []⟩,
    ⟨some 26, .loadN 6 (.t 25), some (21, true), [14]⟩,
    ⟨some 27, .move (.t 0), some (21, true), []⟩,
    ⟨some 28, .move (.t 9), some (21, true), []⟩,
    ⟨some 29, .bin .sub (.t 28) (.c (.int .i64 1)), some (21, true), []⟩,
    ⟨some 30, .indexAddrS 6 (.t 27) (.t 29), some (21, true), []⟩,
    ⟨some 31, .loadN 6 (.t 30), some (21, true), [14]⟩,
    ⟨some 32, .callV (.t 22) [(.t 26), (.t 31)], some (21, true), []⟩,
    ⟨some 33, .bin .lss (.t 32) (.c (.int .i64 0)), some (21, true), []⟩,
    ⟨some 34, .pick (.t 21) (.t 33) (.c (.bool false)), none, []⟩] .sink)
  (.cond (.t 34) .skip
  (.exit 2)))
  (.seq (.block 3 (.region [⟨some 37, .move (.t 0), none, []⟩,
    ⟨some 38, .move (.t 9), none, []⟩,
    ⟨some 39, .move (.t 0), none, []⟩,
    ⟨some 40, .move (.t 9), none, []⟩,
    ⟨some 41, .bin .sub (.t 40) (.c (.int .i64 1)), none, []⟩,
    ⟨some 42, .move (.t 0), none, []⟩,
    ⟨some 43, .move (.t 9), none, []⟩,
    ⟨some 44, .bin .sub (.t 43) (.c (.int .i64 1)), none, []⟩,
    ⟨some 45, .indexAddrS 6 (.t 42) (.t 44), none, []⟩,
    ⟨some 46, .loadN 6 (.t 45), none, [15]⟩,
    ⟨some 47, .move (.t 0), none, []⟩,
    ⟨some 48, .move (.t 9), none, []⟩,
    ⟨some 49, .indexAddrS 6 (.t 47) (.t 48), none, []⟩,
    ⟨some 50, .loadN 6 (.t 49), none, [15]⟩,
    ⟨some 51, .indexAddrS 6 (.t 37) (.t 38), none, []⟩,
    ⟨none, .store 6 (.t 51) (.t 46), none, []⟩,
    ⟨some 52, .indexAddrS 6 (.t 39) (.t 41), none, []⟩,
    ⟨none, .store 6 (.t 52) (.t 50), none, []⟩] .sink))
  (.region [⟨some 35, .move (.t 9), none, []⟩,
    ⟨some 36, .bin .sub (.t 35) (.c (.int .i64 1)), none, []⟩,
    ⟨some 9, .move (.t 36), none, []⟩] .seq)))))))
  (.region [⟨some 15, .move (.t 8), none, []⟩,
    ⟨some 16, .bin .add (.t 15) (.c (.int .i64 1)), none, []⟩,
    ⟨some 8, .move (.t 16), none, []⟩] .seq))))))⟩
/-- slices.symMergeCmpFunc[anabranch/api.Rec] -/
def DF240 : AFunc := ⟨220, [], (.seq (.seq (.region [⟨some 25, .move (.t 2), none, []⟩,
    ⟨some 26, .move (.t 1), none, []⟩,
    ⟨some 27, .bin .sub (.t 25) (.t 26), none, []⟩,
    ⟨some 28, .bin .eql (.t 27) (.c (.int .i64 1)), none, []⟩] .seq)
  (.cond (.t 28) (.seq (.region [⟨some 29, .move (.t 2), none, []⟩,
    ⟨some 10, .move (.t 29), none, []⟩] .seq)
  (.seq (.region [⟨some 30, .move (.t 3), none, []⟩,
    ⟨some 11, .move (.t 30), none, []⟩] .seq)
  (.seq (.block 0 (.loop (.seq (.seq (.region [⟨some 31, .move (.t 10), none, []⟩,
    ⟨some 32, .move (.t 11), none, []⟩,
    ⟨some 33, .bin .lss (.t 31) (.t 32), none, []⟩] .seq)
  (.cond (.t 33) .skip
  (.exit 0)))
  (.block 1 (.seq (.region [⟨some 34, .move (.t 10), none, []⟩,
    ⟨some 35, .move (.t 11), none, []⟩,
    ⟨some 36, .bin .add (.t 34) (.t 35), none, []⟩,
    ⟨some 37, .conv .u64 (.t 36), none, []⟩,
    ⟨some 38, .bin .shr (.t 37) (.c (.int .u64 1)), none, []⟩,
    ⟨some 39, .conv .i64 (.t 38), none, []⟩,
    ⟨some 12, .move (.t 39), none, []⟩] .seq)
  (.seq (.region [⟨some 40, .move (.t 4), none, []⟩,
    ⟨some 41, .move (.t 0), none, []⟩,
    ⟨some 42, .move (.t 12), none, []⟩,
    ⟨some 43, .indexAddrS 6 (.t 41) (.t 42), none, []⟩,
    ⟨some 44, .loadN 6 (.t 43), none, [9]⟩,
    ⟨some 45, .move (.t 0), none, []⟩,
    ⟨some 46, .move (.t 1), none, []⟩,
    ⟨some 47, .indexAddrS 6 (.t 45) (.t 46), none, []⟩,
    ⟨some 48, .loadN 6 (.t 47), none, [9]⟩,
    ⟨some 49, .callV (.t 40) [(.t 44), (.t 48)], none, []⟩,
    ⟨some 50, .bin .lss (.t 49) (.c (.int .i64 0)), none, []⟩] .sink)
  (.cond (.t 50) (.region [⟨some 51, .move (.t 12), none, []⟩,
    ⟨some 52, .bin .add (.t 51) (.c (.int .i64 1)), none, []⟩,
    ⟨some 10, .move (.t 52), none, []⟩] .seq)
  (.region [⟨some 53, .move (.t 12), none, []⟩,
    ⟨some 11, .move (.t 53), none, []⟩] .seq))))))))
  (.seq (.seq (.region [⟨some 54, .move (.t 1), none, []⟩,
    ⟨some 13, .move (.t 54), none, []⟩] .seq)
  (.block 2 (.loop (.seq (.seq (.region [⟨some 55, .move (.t 13), none, []⟩,
    ⟨some 56, .move (.t 10), none, []⟩,
    ⟨some 57, .bin .sub (.t 56) (.c (.int .i64 1)), none, []⟩,
    ⟨some 58, .bin .lss (.t 55) (.t 57), none, []⟩] .seq)
  (.cond (.t 58) .skip
  (.exit 2)))
  (.seq (.block 3 (.region [⟨some 61, .move (.t 0), none, []⟩,
    ⟨some 62, .move (.t 13), none, []⟩,
    ⟨some 63, .move (.t 0), none, []⟩,
    ⟨some 64, .move (.t 13), none, []⟩,
    ⟨some 65, .bin .add (.t 64) (.c (.int .i64 1)), none, []⟩,
    ⟨some 66, .move (.t 0), none, []⟩,
    ⟨some 67, .move (.t 13), none, []⟩,
    ⟨some 68, .bin .add (.t 67) (.c (.int .i64 1)), none, []⟩,
    ⟨some 69, .indexAddrS 6 (.t 66) (.t 68), none, []⟩,
    ⟨some 70, .loadN 6 (.t 69), none, [15]⟩,
    ⟨some 71, .move (.t 0), none, []⟩,
    ⟨some 72, .move (.t 13), none, []⟩,
    ⟨some 73, .indexAddrS 6 (.t 71) (.t 72), none, []⟩,
    ⟨some 74, .loadN 6 (.t 73), none, [15]⟩,
    ⟨some 75, .indexAddrS 6 (.t 61) (.t 62), none, []⟩,
    ⟨none, .store 6 (.t 75) (.t 70), none, []⟩,
    ⟨some 76, .indexAddrS 6 (.t 63) (.t 65), none, []⟩,
    ⟨none, .store 6 (.t 76) (.t 74), none, []⟩] .sink))
  (.region [⟨some 59, .move (.t 13), none, []⟩,
    ⟨some 60, .bin .add (.t 59) (.c (.int .i64 1)), none, []⟩,
    ⟨some 13, .move (.t 60), none, []⟩] .seq))))))
  .ret))))
  .skip))
  (.seq (.seq (.region [⟨some 77, .move (.t 3), none, []⟩,
    ⟨some 78, .move (.t 2), none, []⟩,
    ⟨some 79, .bin .sub (.t 77) (.t 78), none, []⟩,
    ⟨some 80, .bin .eql (.t 79) (.c (.int .i64 1)), none, []⟩] .seq)
  (.cond (.t 80) (.seq (.region [⟨some 81, .move (.t 1), none, []⟩,
    ⟨some 14, .move (.t 81), none, []⟩] .seq)
  (.seq (.region [⟨some 82, .move (.t 2), none, []⟩,
    ⟨some 15, .move (.t 82), none, []⟩] .seq)
  (.seq (.block 4 (.loop (.seq (.seq (.region [⟨some 83, .move (.t 14), none, []⟩,
    ⟨some 84, .move (.t 15), none, []⟩,
    ⟨some 85, .bin .lss (.t 83) (.t 84), none, []⟩] .seq)
  (.cond (.t 85) .skip
  (.exit 4)))
  (.block 5 (.seq (.region [⟨some 86, .move (.t 14), none, []⟩,
    ⟨some 87, .move (.t 15), none, []⟩,
    ⟨some 88, .bin .add (.t 86) (.t 87), none, []⟩,
    ⟨some 89, .conv .u64 (.t 88), none, []⟩,
    ⟨some 90, .bin .shr (.t 89) (.c (.int .u64 1)), none, []⟩,
    ⟨some 91, .conv .i64 (.t 90), none, []⟩,
    ⟨some 16, .move (.t 91), none, []⟩] .seq)
  (.seq (.region [⟨some 92, .move (.t 4), none, []⟩,
    ⟨some 93, .move (.t 0), none, []⟩,
    ⟨some 94, .move (.t 2), none, []⟩,
    ⟨some 95, .indexAddrS 6 (.t 93) (.t 94), none, []⟩,
    ⟨some 96, .loadN 6 (.t 95), none, [9]⟩,
    ⟨some 97, .move (.t 0), none, []⟩,
    ⟨some 98, .move (.t 16), none, []⟩,
    ⟨some 99, .indexAddrS 6 (.t 97) (.t 98), none, []⟩,
    ⟨some 100, .loadN 6 (.t 99), none, [9]⟩,
    ⟨some 101, .callV (.t 92) [(.t 96), (.t 100)], none, []⟩,
    ⟨some 102, .bin .lss (.t 101) (.c (.int .i64 0)), none, []⟩,
    ⟨some 103, .un .not (.t 102), none, []⟩] .sink)
  (.cond (.t 103) (.region [⟨some 104, .move (.t 16), none, []⟩,
    ⟨some 105, .bin .add (.t 104) (.c (.int .i64 1)), none, []⟩,
    ⟨some 14, .move (.t 105), none, []⟩] .seq)
  (.region [⟨some 106, .move (.t 16), none, []⟩,
    ⟨some 15, .move (.t 106), none, []⟩] .seq))))))))
  (.seq (.seq (.region [⟨some 107, .move (.t 2), none, []⟩,
    ⟨some 17, .move (.t 107), none, []⟩] .seq)
  (.block 6 (.loop (.seq (.seq (.region [⟨some 108, .move (.t 17), none, []⟩,
    ⟨some 109, .move (.t 14), none, []⟩,
    ⟨some 110, .bin .gtr (.t 108) (.t 109), none, []⟩] .seq)
  (.cond (.t 110) .skip
  (.exit 6)))
  (.seq (.block 7 (.region [⟨some 113, .move (.t 0), none, []⟩,
    ⟨some 114, .move (.t 17), none, []⟩,
    ⟨some 115, .move (.t 0), none, []⟩,
    ⟨some 116, .move (.t 17), none, []⟩,
    ⟨some 117, .bin .sub (.t 116) (.c (.int .i64 1)), none, []⟩,
    ⟨some 118, .move (.t 0), none, []⟩,
    ⟨some 119, .move (.t 17), none, []⟩,
    ⟨some 120, .bin .sub (.t 119) (.c (.int .i64 1)), none, []⟩,
    ⟨some 121, .indexAddrS 6 (.t 118) (.t 120), none, []⟩,
    ⟨some 122, .loadN 6 (.t 121), none, [15]⟩,
    ⟨some 123, .move (.t 0), none, []⟩,
    ⟨some 124, .move (.t 17), none, []⟩,
    ⟨some 125, .indexAddrS 6 (.t 123) (.t 124), none, []⟩,
    ⟨some 126, .loadN 6 (.t 125), none, [15]⟩,
    ⟨some 127, .indexAddrS 6 (.t 113) (.t 114), none, []⟩,
    ⟨none, .store 6 (.t 127) (.t 122), none, []⟩,
    ⟨some 128, .indexAddrS 6 (.t 115) (.t 117), none, []⟩,
    ⟨none, .store 6 (.t 128) (.t 126), none, []⟩] .sink))
  (.region [⟨some 111, .move (.t 17), none, []⟩,
    ⟨some 112, .bin .sub (.t 111) (.c (.int .i64 1)), none, []⟩,
    ⟨some 17, .move (.t 112), none, []⟩] .seq))))))
  .ret))))
  .skip))
  (.seq (.region [⟨some 129, .move (.t 1), none, []⟩,
    ⟨some 130, .move (.t 3), none, []⟩,
    ⟨some 131, .bin .add (.t 129) (.t 130), none, []⟩,
    ⟨some 132, .conv .u64 (.t 131), none, []⟩,
    ⟨some 133, .bin .shr (.t 132) (.c (.int .u64 1)), none, []⟩,
    ⟨some 134, .conv .i64 (.t 133), none, []⟩,
    ⟨some 18, .move (.t 134), none, []⟩] .seq)
  (.seq (.region [⟨some 135, .move (.t 18), none, []⟩,
    ⟨some 136, .move (.t 2), none, []⟩,
    ⟨some 137, .bin .add (.t 135) (.t 136), none, []⟩,
    ⟨some 19, .move (.t 137), none, []⟩] .seq)
  (.seq (.region [⟨some 20, .move (.c (.int .i64 0)), none, []⟩,
    ⟨some 21, .move (.c (.int .i64 0)), none, []⟩] .seq)
  (.seq (.seq (.region [⟨some 138, .move (.t 2), none, []⟩,
    ⟨some 139, .move (.t 18), none, []⟩,
    ⟨some 140, .bin .gtr (.t 138) (.t 139), none, []⟩] .seq)
  (.cond (.t 140) (.seq (.region [⟨some 141, .move (.t 19), none, []⟩,
    ⟨some 142, .move (.t 3), none, []⟩,
    ⟨some 143, .bin .sub (.t 141) (.t 142), none, []⟩,
    ⟨some 20, .move (.t 143), none, []⟩] .seq)
  (.region [⟨some 144, .move (.t 18), none, []⟩,
    ⟨some 21, .move (.t 144), none, []⟩] .seq))
  (.seq (.region [⟨some 145, .move (.t 1), none, []⟩,
    ⟨some 20, .move (.t 145), none, []⟩] .seq)
  (.region [⟨some 146, .move (.t 2), none, []⟩,
    ⟨some 21, .move (.t 146), none, []⟩] .seq))))
  (.seq (.region [⟨some 147, .move (.t 19), none, []⟩,
    ⟨some 148, .bin .sub (.t 147) (.c (.int .i64 1)), none, []⟩,
    ⟨some 22, .move (.t 148), none, []⟩] .seq)
  (.seq (.block 8 (.loop (.seq (.seq (.region [⟨some 149, .move (.t 20), none, []⟩,
    ⟨some 150, .move (.t 21), none, []⟩,
    ⟨some 151, .bin .lss (.t 149) (.t 150), none, []⟩] .seq)
  (.cond (.t 151) .skip
  (.exit 8)))
  (.block 9 (.seq (.region [⟨some 152, .move (.t 20), none, []⟩,
    ⟨some 153, .move (.t 21), none, []⟩,
    ⟨some 154, .bin .add (.t 152) (.t 153), none, []⟩,
    ⟨some 155, .conv .u64 (.t 154), none, []⟩,
    ⟨some 156, .bin .shr (.t 155) (.c (.int .u64 1)), none, []⟩,
    ⟨some 157, .conv .i64 (.t 156), none, []⟩,
    ⟨some 23, .move (.t 157), none, []⟩] .seq)
  (.seq (.region [⟨some 158, .move (.t 4), none, []⟩,
    ⟨some 159, .move (.t 0), none, []⟩,
    ⟨some 160, .move (.t 22), none, []⟩,
    ⟨some 161, .move (.t 23), none, []⟩,
    ⟨some 162, .bin .sub (.t 160) (.t 161), none, []⟩,
    ⟨some 163, .indexAddrS 6 (.t 159) (.t 162), none, []⟩,
    ⟨some 164, .loadN 6 (.t 163), none, [11]⟩,
    ⟨some 165, .move (.t 0), none, []⟩,
    ⟨some 166, .move (.t 23), none, []⟩,
    ⟨some 167, .indexAddrS 6 (.t 165) (.t 166), none, []⟩,
    ⟨some 168, .loadN 6 (.t 167), none, [11]⟩,
    ⟨some 169, .callV (.t 158) [(.t 164), (.t 168)], none, []⟩,
    ⟨some 170, .bin .lss (.t 169) (.c (.int .i64 0)), none, []⟩,
    ⟨some 171, .un .not (.t 170), none, []⟩] .sink)
  (.cond (.t 171) (.region [⟨some 172, .move (.t 23), none, []⟩,
    ⟨some 173, .bin .add (.t 172) (.c (.int .i64 1)), none, []⟩,
    ⟨some 20, .move (.t 173), none, []⟩] .seq)
  (.region [⟨some 174, .move (.t 23), none, []⟩,
    ⟨some 21, .move (.t 174), none, []⟩] .seq))))))))
  (.seq (.region [⟨some 175, .move (.t 19), none, []⟩,
    ⟨some 176, .move (.t 20), none, []⟩,
    ⟨some 177, .bin .sub (.t 175) (.t 176), none, []⟩,
    ⟨some 24, .move (.t 177), none, []⟩] .seq)
  (.seq (.seq (.region [⟨some 178, .move (.t 20), none, []⟩,
    ⟨some 179, .move (.t 2), none, []⟩,
    ⟨some 180, .bin .lss (.t 178) (.t 179), none, []⟩,
    ⟨some 181, .move (.t 180), none, []⟩,
    ⟨some 182, .move (.t 2), some (181, true), []⟩,
    ⟨some 183, .move (.t 24), some (181, true), []⟩,
    ⟨some 184, .bin .lss (.t 182) (.t 183), some (181, true), []⟩,
    ⟨some 185, .pick (.t 181) (.t 184) (.c (.bool false)), none, []⟩] .seq)
  (.cond (.t 185) (.region [⟨some 186, .move (.t 0), none, []⟩,
    ⟨some 187, .move (.t 20), none, []⟩,
    ⟨some 188, .move (.t 2), none, []⟩,
    ⟨some 189, .move (.t 24), none, []⟩,
    ⟨some 190, .move (.t 4), none, []⟩,
    ⟨some 191, .callF 263 [(.t 186), (.t 187), (.t 188), (.t 189), (.t 190)], none, []⟩] .seq)
  .skip))
  (.seq (.seq (.region [⟨some 192, .move (.t 1), none, []⟩,
    ⟨some 193, .move (.t 20), none, []⟩,
    ⟨some 194, .bin .lss (.t 192) (.t 193), none, []⟩,
    ⟨some 195, .move (.t 194), none, []⟩,
    ⟨some 196, .move (.t 20), some (195, true), []⟩,
    ⟨some 197, .move (.t 18), some (195, true), []⟩,
    ⟨some 198, .bin .lss (.t 196) (.t 197), some (195, true), []⟩,
    ⟨some 199, .pick (.t 195) (.t 198) (.c (.bool false)), none, []⟩] .seq)
  (.cond (.t 199) (.region [⟨some 200, .move (.t 0), none, []⟩,
    ⟨some 201, .move (.t 1), none, []⟩,
    ⟨some 202, .move (.t 20), none, []⟩,
    ⟨some 203, .move (.t 18), none, []⟩,
    ⟨some 204, .move (.t 4), none, []⟩,
    ⟨some 205, .callF 240 [(.t 200), (.t 201), (.t 202), (.t 203), (.t 204)], none, []⟩] .seq)
  .skip))
  (.seq (.region [⟨some 206, .move (.t 18), none, []⟩,
    ⟨some 207, .move (.t 24), none, []⟩,
    ⟨some 208, .bin .lss (.t 206) (.t 207), none, []⟩,
    ⟨some 209, .move (.t 208), none, []⟩,
    ⟨some 210, .move (.t 24), some (209, true), []⟩,
    ⟨some 211, .move (.t 3), some (209, true), []⟩,
    ⟨some 212, .bin .lss (.t 210) (.t 211), some (209, true), []⟩,
    ⟨some 213, .pick (.t 209) (.t 212) (.c (.bool false)), none, []⟩] .seq)
  (.cond (.t 213) (.region [⟨some 214, .move (.t 0), none, []⟩,
    ⟨some 215, .move (.t 18), none, []⟩,
    ⟨some 216, .move (.t 24), none, []⟩,
    ⟨some 217, .move (.t 3), none, []⟩,
    ⟨some 218, .move (.t 4), none, []⟩,
    ⟨some 219, .callF 240 [(.t 214), (.t 215), (.t 216), (.t 217), (.t 218)], none, []⟩] .seq)
  .skip)))))))))))))⟩
/-- anabranch/oper.only$1 -/
def DF241 : AFunc := ⟨6, [], (.region [⟨some 3, .move (.t 0), none, []⟩,
    ⟨some 4, .loadN 6 (.t 1), none, []⟩,
    ⟨some 5, .callV (.t 3) [(.t 4)], none, []⟩] .seq)⟩
/-- slices.Index[[]int,int] -/
def DF243 : AFunc := ⟨19, [.tmp 4], (.seq (.region [⟨some 4, .move (.c (.int .i64 0)), none, []⟩] .seq)
  (.seq (.seq (.region [⟨some 6, .move (.t 0), none, []⟩,
    ⟨some 7, .len .sl (.t 6), none, []⟩,
    ⟨some 8, .move (.c (.int .i64 0)), none, []⟩] .seq)
  (.block 0 (.loop (.seq (.region [⟨some 9, .bin .lss (.t 8) (.t 7), none, []⟩] .seq)
  (.seq (.cond (.t 9) .skip
  (.exit 0))
  (.seq (.block 1 (.seq (.region [⟨some 10, .move (.t 8), none, []⟩,
    ⟨some 5, .move (.t 10), none, []⟩] .seq)
  (.seq (.region [⟨some 11, .move (.t 1), none, []⟩,
    ⟨some 12, .move (.t 0), none, []⟩,
    ⟨some 13, .move (.t 5), none, []⟩,
    ⟨some 14, .indexAddrS 1 (.t 12) (.t 13), none, []⟩,
    ⟨some 15, .load1 (.t 14), none, []⟩,
    ⟨some 16, .bin .eql (.t 11) (.t 15), none, []⟩] .seq)
  (.cond (.t 16) (.seq (.region [⟨some 17, .move (.t 5), none, []⟩,
    ⟨some 4, .move (.t 17), none, []⟩] .seq)
  .ret)
  .skip))))
  (.region [⟨some 18, .bin .add (.t 8) (.c (.int .i64 1)), none, []⟩,
    ⟨some 8, .move (.t 18), none, []⟩] .seq)))))))
  (.seq (.region [⟨some 4, .move (.c (.int .i64 (-1))), none, []⟩] .seq)
  .ret)))⟩
/-- slices.siftDownOrdered[int] -/
def DF244 : AFunc := ⟨76, [], (.seq (.region [⟨some 10, .move (.t 1), none, []⟩,
    ⟨some 8, .move (.t 10), none, []⟩] .seq)
  (.block 0 (.loop (.block 1 (.seq (.region [⟨some 11, .move (.t 8), none, []⟩,
    ⟨some 12, .bin .mul (.c (.int .i64 2)) (.t 11), none, []⟩,
    ⟨some 13, .bin .add (.t 12) (.c (.int .i64 1)), none, []⟩,
    ⟨some 9, .move (.t 13), none, []⟩] .seq)
  (.seq (.seq (.region [⟨some 14, .move (.t 9), none, []⟩,
    ⟨some 15, .move (.t 2), none, []⟩,
    ⟨some 16, .bin .geq (.t 14) (.t 15), none, []⟩] .seq)
  (.cond (.t 16) (.exit 0)
  .skip))
  (.seq (.seq (.region [⟨some 17, .move (.t 9), none, []⟩,
    ⟨some 18, .bin .add (.t 17) (.c (.int .i64 1)), none, []⟩,
    ⟨some 19, .move (.t 2), none, []⟩,
    ⟨some 20, .bin .lss (.t 18) (.t 19), none, []⟩,
    ⟨some 21, .move (.t 20), none, []⟩,
    ⟨some 22, .move (.t 0), some (21, true), []⟩,
    ⟨some 23, .move (.t 3), some (21, true), []⟩,
    ⟨some 24, .move (.t 9), some (21, true), []⟩,
    ⟨some 25, .bin .add (.t 23) (.t 24), some (21, true), []⟩,
    ⟨some 26, .indexAddrS 1 (.t 22) (.t 25), some (21, true), []⟩,
    ⟨some 27, .load1 (.t 26), some (21, true), [18]⟩,
    ⟨some 28, .move (.t 0), some (21, true), []⟩,
    ⟨some 29, .move (.t 3), some (21, true), []⟩,
    ⟨some 30, .move (.t 9), some (21, true), []⟩,
    ⟨some 31, .bin .add (.t 29) (.t 30), some (21, true), []⟩,
    ⟨some 32, .bin .add (.t 31) (.c (.int .i64 1)), some (21, true), []⟩,
    ⟨some 33, .indexAddrS 1 (.t 28) (.t 32), some (21, true), []⟩,
    ⟨some 34, .load1 (.t 33), some (21, true), [18]⟩,
    ⟨some 35, .callF 225 [(.t 27), (.t 34)], some (21, true), []⟩,
    ⟨some 36, .pick (.t 21) (.t 35) (.c (.bool false)), none, []⟩] .sink)
  (.cond (.t 36) (.region [⟨some 37, .move (.t 9), none, []⟩,
    ⟨some 38, .bin .add (.t 37) (.c (.int .i64 1)), none, []⟩,
    ⟨some 9, .move (.t 38), none, []⟩] .seq)
  .skip))
  (.seq (.seq (.region [⟨some 39, .move (.t 0), none, []⟩,
    ⟨some 40, .move (.t 3), none, []⟩,
    ⟨some 41, .move (.t 8), none, []⟩,
    ⟨some 42, .bin .add (.t 40) (.t 41), none, []⟩,
    ⟨some 43, .indexAddrS 1 (.t 39) (.t 42), none, []⟩,
    ⟨some 44, .load1 (.t 43), none, [12]⟩,
    ⟨some 45, .move (.t 0), none, []⟩,
    ⟨some 46, .move (.t 3), none, []⟩,
    ⟨some 47, .move (.t 9), none, []⟩,
    ⟨some 48, .bin .add (.t 46) (.t 47), none, []⟩,
    ⟨some 49, .indexAddrS 1 (.t 45) (.t 48), none, []⟩,
    ⟨some 50, .load1 (.t 49), none, [12]⟩,
    ⟨some 51, .callF 225 [(.t 44), (.t 50)], none, []⟩,
    ⟨some 52, .un .not (.t 51), none, []⟩] .sink)
  (.cond (.t 52) .ret
  .skip))
  (.seq (.region [⟨some 53, .move (.t 0), none, []⟩,
    ⟨some 54, .move (.t 3), none, []⟩,
    ⟨some 55, .move (.t 8), none, []⟩,
    ⟨some 56, .bin .add (.t 54) (.t 55), none, []⟩,
    ⟨some 57, .move (.t 0), none, []⟩,
    ⟨some 58, .move (.t 3), none, []⟩,
    ⟨some 59, .move (.t 9), none, []⟩,
    ⟨some 60, .bin .add (.t 58) (.t 59), none, []⟩,
    ⟨some 61, .move (.t 0), none, []⟩,
    ⟨some 62, .move (.t 3), none, []⟩,
    ⟨some 63, .move (.t 9), none, []⟩,
    ⟨some 64, .bin .add (.t 62) (.t 63), none, []⟩,
    ⟨some 65, .indexAddrS 1 (.t 61) (.t 64), none, []⟩,
    ⟨some 66, .load1 (.t 65), none, [21]⟩,
    ⟨some 67, .move (.t 0), none, []⟩,
    ⟨some 68, .move (.t 3), none, []⟩,
    ⟨some 69, .move (.t 8), none, []⟩,
    ⟨some 70, .bin .add (.t 68) (.t 69), none, []⟩,
    ⟨some 71, .indexAddrS 1 (.t 67) (.t 70), none, []⟩,
    ⟨some 72, .load1 (.t 71), none, [21]⟩,
    ⟨some 73, .indexAddrS 1 (.t 53) (.t 56), none, []⟩,
    ⟨none, .store 1 (.t 73) (.t 66), none, []⟩,
    ⟨some 74, .indexAddrS 1 (.t 57) (.t 60), none, []⟩,
    ⟨none, .store 1 (.t 74) (.t 72), none, []⟩] .sink)
  (.region [⟨some 75, .move (.t 9), none, []⟩,
    ⟨some 8, .move (.t 75), none, []⟩] .seq))))))))))⟩
/-- slices.nextPowerOfTwo -/
def DF245 : AFunc := ⟨7, [.tmp 2], (.seq (.region [⟨some 2, .move (.c (.int .u64 0)), none, []⟩] .seq)
  (.seq (.region [⟨some 3, .move (.t 0), none, []⟩,
    ⟨some 4, .conv .u64 (.t 3), none, []⟩,
    ⟨some 5, .callF 182 [(.t 4)], none, []⟩,
    ⟨some 6, .bin .shl (.c (.int .u64 1)) (.t 5), none, []⟩,
    ⟨some 2, .move (.t 6), none, []⟩] .seq)
  .ret))⟩
/-- (*slices.xorshift).Next -/
def DF246 : AFunc := ⟨33, [.tmp 2], (.seq (.region [⟨some 2, .move (.c (.int .u64 0)), none, []⟩] .seq)
  (.seq (.region [⟨some 3, .move (.t 0), none, []⟩,
    ⟨some 4, .nilCheck (.t 3), none, []⟩,
    ⟨some 5, .load1 (.t 4), none, [9]⟩,
    ⟨some 6, .move (.t 0), none, []⟩,
    ⟨some 7, .nilCheck (.t 6), none, []⟩,
    ⟨some 8, .load1 (.t 7), none, [9]⟩,
    ⟨some 9, .bin .shl (.t 8) (.c (.int .u64 13)), none, []⟩,
    ⟨some 10, .bin .xor (.t 5) (.t 9), none, []⟩,
    ⟨some 11, .nilCheck (.t 3), none, []⟩,
    ⟨none, .store 1 (.t 11) (.t 10), none, []⟩] .sink)
  (.seq (.region [⟨some 12, .move (.t 0), none, []⟩,
    ⟨some 13, .nilCheck (.t 12), none, []⟩,
    ⟨some 14, .load1 (.t 13), none, [9]⟩,
    ⟨some 15, .move (.t 0), none, []⟩,
    ⟨some 16, .nilCheck (.t 15), none, []⟩,
    ⟨some 17, .load1 (.t 16), none, [9]⟩,
    ⟨some 18, .bin .shr (.t 17) (.c (.int .u64 7)), none, []⟩,
    ⟨some 19, .bin .xor (.t 14) (.t 18), none, []⟩,
    ⟨some 20, .nilCheck (.t 12), none, []⟩,
    ⟨none, .store 1 (.t 20) (.t 19), none, []⟩] .sink)
  (.seq (.region [⟨some 21, .move (.t 0), none, []⟩,
    ⟨some 22, .nilCheck (.t 21), none, []⟩,
    ⟨some 23, .load1 (.t 22), none, [9]⟩,
    ⟨some 24, .move (.t 0), none, []⟩,
    ⟨some 25, .nilCheck (.t 24), none, []⟩,
    ⟨some 26, .load1 (.t 25), none, [9]⟩,
    ⟨some 27, .bin .shl (.t 26) (.c (.int .u64 17)), none, []⟩,
    ⟨some 28, .bin .xor (.t 23) (.t 27), none, []⟩,
    ⟨some 29, .nilCheck (.t 21), none, []⟩,
    ⟨none, .store 1 (.t 29) (.t 28), none, []⟩] .sink)
  (.seq (.region [⟨some 30, .move (.t 0), none, []⟩,
    ⟨some 31, .nilCheck (.t 30), none, []⟩,
    ⟨some 32, .load1 (.t 31), none, []⟩,
    ⟨some 2, .move (.t 32), none, []⟩] .seq)
  .ret)))))⟩
/-- slices.medianAdjacentOrdered[int] -/
def DF247 : AFunc := ⟨15, [.tmp 6], (.seq (.region [⟨some 6, .move (.c (.int .i64 0)), none, []⟩] .seq)
  (.seq (.region [⟨some 7, .move (.t 0), none, []⟩,
    ⟨some 8, .move (.t 1), none, []⟩,
    ⟨some 9, .bin .sub (.t 8) (.c (.int .i64 1)), none, []⟩,
    ⟨some 10, .move (.t 1), none, []⟩,
    ⟨some 11, .move (.t 1), none, []⟩,
    ⟨some 12, .bin .add (.t 11) (.c (.int .i64 1)), none, []⟩,
    ⟨some 13, .move (.t 2), none, []⟩,
    ⟨some 14, .callF 248 [(.t 7), (.t 9), (.t 10), (.t 12), (.t 13)], none, []⟩,
    ⟨some 6, .move (.t 14), none, []⟩] .seq)
  .ret))⟩
/-- slices.medianOrdered[int] -/
def DF248 : AFunc := ⟨36, [.tmp 10], (.seq (.region [⟨some 10, .move (.c (.int .i64 0)), none, []⟩] .seq)
  (.seq (.region [⟨some 12, .move (.t 0), none, []⟩,
    ⟨some 13, .move (.t 1), none, []⟩,
    ⟨some 14, .move (.t 2), none, []⟩,
    ⟨some 15, .move (.t 4), none, []⟩,
    ⟨some 16, .callF 264 [(.t 12), (.t 13), (.t 14), (.t 15)], none, []⟩,
    ⟨some 11, .move (.t 16), none, []⟩,
    ⟨some 17, .extract (.t 11) 0, none, []⟩,
    ⟨some 18, .extract (.t 11) 1, none, []⟩,
    ⟨some 1, .move (.t 17), none, []⟩,
    ⟨some 2, .move (.t 18), none, []⟩] .seq)
  (.seq (.region [⟨some 20, .move (.t 0), none, []⟩,
    ⟨some 21, .move (.t 2), none, []⟩,
    ⟨some 22, .move (.t 3), none, []⟩,
    ⟨some 23, .move (.t 4), none, []⟩,
    ⟨some 24, .callF 264 [(.t 20), (.t 21), (.t 22), (.t 23)], none, []⟩,
    ⟨some 19, .move (.t 24), none, []⟩,
    ⟨some 25, .extract (.t 19) 0, none, []⟩,
    ⟨some 26, .extract (.t 19) 1, none, []⟩,
    ⟨some 2, .move (.t 25), none, []⟩,
    ⟨some 3, .move (.t 26), none, []⟩] .seq)
  (.seq (.region [⟨some 28, .move (.t 0), none, []⟩,
    ⟨some 29, .move (.t 1), none, []⟩,
    ⟨some 30, .move (.t 2), none, []⟩,
    ⟨some 31, .move (.t 4), none, []⟩,
    ⟨some 32, .callF 264 [(.t 28), (.t 29), (.t 30), (.t 31)], none, []⟩,
    ⟨some 27, .move (.t 32), none, []⟩,
    ⟨some 33, .extract (.t 27) 0, none, []⟩,
    ⟨some 34, .extract (.t 27) 1, none, []⟩,
    ⟨some 1, .move (.t 33), none, []⟩,
    ⟨some 2, .move (.t 34), none, []⟩] .seq)
  (.seq (.region [⟨some 35, .move (.t 2), none, []⟩,
    ⟨some 10, .move (.t 35), none, []⟩] .seq)
  .ret)))))⟩
/-- slices.DeleteFunc[[][2]int64,[2]int64] -/
def DF249 : AFunc := ⟨42, [.tmp 4], (.seq (.region [⟨some 4, .move (.c .sl0), none, []⟩] .seq)
  (.seq (.region [⟨some 8, .move (.t 0), none, []⟩,
    ⟨some 9, .move (.t 1), none, []⟩,
    ⟨some 10, .callF 231 [(.t 8), (.t 9)], none, []⟩,
    ⟨some 5, .move (.t 10), none, []⟩] .seq)
  (.seq (.seq (.region [⟨some 11, .move (.t 5), none, []⟩,
    ⟨some 12, .bin .eql (.t 11) (.c (.int .i64 (-1))), none, []⟩] .seq)
  (.cond (.t 12) (.seq (.region [⟨some 13, .move (.t 0), none, []⟩,
    ⟨some 4, .move (.t 13), none, []⟩] .seq)
  .ret)
  .skip))
  (.seq (.seq (.region [⟨some 14, .move (.t 5), none, []⟩,
    ⟨some 15, .bin .add (.t 14) (.c (.int .i64 1)), none, []⟩,
    ⟨some 6, .move (.t 15), none, []⟩] .seq)
  (.block 0 (.loop (.seq (.seq (.region [⟨some 16, .move (.t 6), none, []⟩,
    ⟨some 17, .move (.t 0), none, []⟩,
    ⟨some 18, .len .sl (.t 17), none, []⟩,
    ⟨some 19, .bin .lss (.t 16) (.t 18), none, []⟩] .seq)
  (.cond (.t 19) .skip
  (.exit 0)))
  (.seq (.block 1 (.seq (.region [⟨some 22, .move (.t 0), none, []⟩,
    ⟨some 23, .move (.t 6), none, []⟩,
    ⟨some 24, .indexAddrS 2 (.t 22) (.t 23), none, []⟩,
    ⟨some 25, .loadN 2 (.t 24), none, []⟩,
    ⟨some 7, .alloc 96 [(.int .i64 0), (.int .i64 0)], none, []⟩,
    ⟨none, .store 2 (.t 7) (.t 25), none, []⟩] .seq)
  (.seq (.region [⟨some 26, .move (.t 1), none, []⟩,
    ⟨some 27, .loadN 2 (.t 7), none, []⟩,
    ⟨some 28, .callV (.t 26) [(.t 27)], none, []⟩,
    ⟨some 29, .un .not (.t 28), none, []⟩] .seq)
  (.cond (.t 29) (.seq (.region [⟨some 30, .move (.t 0), none, []⟩,
    ⟨some 31, .move (.t 5), none, []⟩,
    ⟨some 32, .loadN 2 (.t 7), none, []⟩,
    ⟨some 33, .indexAddrS 2 (.t 30) (.t 31), none, []⟩,
    ⟨none, .store 2 (.t 33) (.t 32), none, []⟩] .seq)
  (.region [⟨some 34, .move (.t 5), none, []⟩,
    ⟨some 35, .bin .add (.t 34) (.c (.int .i64 1)), none, []⟩,
    ⟨some 5, .move (.t 35), none, []⟩] .seq))
  .skip))))
  (.region [⟨some 20, .move (.t 6), none, []⟩,
    ⟨some 21, .bin .add (.t 20) (.c (.int .i64 1)), none, []⟩,
    ⟨some 6, .move (.t 21), none, []⟩] .seq))))))
  (.seq (.region [⟨some 36, .move (.t 0), none, []⟩,
    ⟨some 37, .move (.t 5), none, []⟩,
    ⟨some 38, .slice 2 (.t 36) (some (.t 37)) none none, none, []⟩,
    ⟨none, .clear [(.int .i64 0), (.int .i64 0)] (.t 38), none, []⟩] .seq)
  (.seq (.region [⟨some 39, .move (.t 0), none, []⟩,
    ⟨some 40, .move (.t 5), none, []⟩,
    ⟨some 41, .slice 2 (.t 39) none (some (.t 40)) none, none, []⟩,
    ⟨some 4, .move (.t 41), none, []⟩] .seq)
  .ret))))))⟩
/-- slices.Clone[[][2]int64,[2]int64] -/
def DF250 : AFunc := ⟨8, [.tmp 2], (.seq (.region [⟨some 2, .move (.c .sl0), none, []⟩] .seq)
  (.seq (.seq (.region [⟨some 3, .move (.t 0), none, []⟩,
    ⟨some 4, .isNil .s false (.t 3) (.c .sl0), none, []⟩] .seq)
  (.cond (.t 4) (.seq (.region [⟨some 2, .move (.c .sl0), none, []⟩] .seq)
  .ret)
  .skip))
  (.seq (.region [⟨some 5, .buildSlice 96 0 2 [] [], none, []⟩,
    ⟨some 6, .move (.t 0), none, []⟩,
    ⟨some 7, .append 96 2 16 [(.int .i64 0), (.int .i64 0)] (.t 5) (.t 6), none, []⟩,
    ⟨some 2, .move (.t 7), none, []⟩] .seq)
  .ret)))⟩
/-- anabranch/win.Gather$1 -/
def DF251 : AFunc := ⟨8, [.tmp 2], (.seq (.region [⟨some 1, .box 96 (.t 0), none, []⟩,
    ⟨some 2, .move (.c (.bool false)), none, []⟩] .seq)
  (.seq (.region [⟨some 3, .indexAddrA 2 1 (.t 1) (.c (.int .i64 0)), none, []⟩,
    ⟨some 4, .load1 (.t 3), none, []⟩,
    ⟨some 5, .indexAddrA 2 1 (.t 1) (.c (.int .i64 1)), none, []⟩,
    ⟨some 6, .load1 (.t 5), none, []⟩,
    ⟨some 7, .bin .geq (.t 4) (.t 6), none, []⟩,
    ⟨some 2, .move (.t 7), none, []⟩] .seq)
  .ret))⟩
/-- slices.SortFunc[[][2]int64,[2]int64] -/
def DF252 : AFunc := ⟨14, [], (.seq (.region [⟨some 5, .move (.t 0), none, []⟩,
    ⟨some 6, .len .sl (.t 5), none, []⟩,
    ⟨some 4, .move (.t 6), none, []⟩] .seq)
  (.region [⟨some 7, .move (.t 0), none, []⟩,
    ⟨some 8, .move (.t 4), none, []⟩,
    ⟨some 9, .move (.t 4), none, []⟩,
    ⟨some 10, .conv .u64 (.t 9), none, []⟩,
    ⟨some 11, .callF 182 [(.t 10)], none, []⟩,
    ⟨some 12, .move (.t 1), none, []⟩,
    ⟨some 13, .callF 265 [(.t 7), (.c (.int .i64 0)), (.t 8), (.t 11), (.t 12)], none, []⟩] .seq))⟩
/-- anabranch/win.Gather$2 -/
def DF253 : AFunc := ⟨8, [.tmp 4], (.seq (.region [⟨some 2, .box 96 (.t 0), none, []⟩,
    ⟨some 3, .box 96 (.t 1), none, []⟩,
    ⟨some 4, .move (.c (.int .i64 0)), none, []⟩] .seq)
  (.seq (.region [⟨some 5, .sliceArr 2 1 (.t 2) none none none, none, []⟩,
    ⟨some 6, .sliceArr 2 1 (.t 3) none none none, none, []⟩,
    ⟨some 7, .callF 254 [(.t 5), (.t 6)], none, []⟩,
    ⟨some 4, .move (.t 7), none, []⟩] .sink)
  .ret))⟩
/-- slices.Compare[[]int64,int64] -/
def DF254 : AFunc := ⟨36, [.tmp 4], (.seq (.region [⟨some 4, .move (.c (.int .i64 0)), none, []⟩] .seq)
  (.seq (.seq (.region [⟨some 9, .move (.t 0), none, []⟩,
    ⟨some 10, .len .sl (.t 9), none, []⟩,
    ⟨some 11, .move (.c (.int .i64 0)), none, []⟩] .seq)
  (.block 0 (.loop (.seq (.region [⟨some 12, .bin .lss (.t 11) (.t 10), none, []⟩] .seq)
  (.seq (.cond (.t 12) .skip
  (.exit 0))
  (.seq (.block 1 (.seq (.region [⟨some 13, .move (.t 11), none, []⟩,
    ⟨some 14, .indexAddrS 1 (.t 9) (.t 11), none, []⟩,
    ⟨some 15, .load1 (.t 14), none, []⟩,
    ⟨some 5, .move (.t 13), none, []⟩,
    ⟨some 6, .move (.t 15), none, []⟩] .seq)
  (.seq (.seq (.region [⟨some 16, .move (.t 5), none, []⟩,
    ⟨some 17, .move (.t 1), none, []⟩,
    ⟨some 18, .len .sl (.t 17), none, []⟩,
    ⟨some 19, .bin .geq (.t 16) (.t 18), none, []⟩] .seq)
  (.cond (.t 19) (.seq (.region [⟨some 4, .move (.c (.int .i64 1)), none, []⟩] .seq)
  .ret)
  .skip))
  (.seq (.region [⟨some 20, .move (.t 1), none, []⟩,
    ⟨some 21, .move (.t 5), none, []⟩,
    ⟨some 22, .indexAddrS 1 (.t 20) (.t 21), none, []⟩,
    ⟨some 23, .load1 (.t 22), none, []⟩,
    ⟨some 7, .move (.t 23), none, []⟩] .seq)
  (.seq (.region [⟨some 24, .move (.t 6), none, []⟩,
    ⟨some 25, .move (.t 7), none, []⟩,
    ⟨some 26, .callF 41 [(.t 24), (.t 25)], none, []⟩,
    ⟨some 8, .move (.t 26), none, []⟩] .seq)
  (.seq (.region [⟨some 27, .move (.t 8), none, []⟩,
    ⟨some 28, .bin .neq (.t 27) (.c (.int .i64 0)), none, []⟩] .seq)
  (.cond (.t 28) (.seq (.region [⟨some 29, .move (.t 8), none, []⟩,
    ⟨some 4, .move (.t 29), none, []⟩] .seq)
  .ret)
  .skip)))))))
  (.region [⟨some 30, .bin .add (.t 11) (.c (.int .i64 1)), none, []⟩,
    ⟨some 11, .move (.t 30), none, []⟩] .seq)))))))
  (.seq (.seq (.region [⟨some 31, .move (.t 0), none, []⟩,
    ⟨some 32, .len .sl (.t 31), none, []⟩,
    ⟨some 33, .move (.t 1), none, []⟩,
    ⟨some 34, .len .sl (.t 33), none, []⟩,
    ⟨some 35, .bin .lss (.t 32) (.t 34), none, []⟩] .seq)
  (.cond (.t 35) (.seq (.region [⟨some 4, .move (.c (.int .i64 (-1))), none, []⟩] .seq)
  .ret)
  .skip))
  (.seq (.region [⟨some 4, .move (.c (.int .i64 0)), none, []⟩] .seq)
  .ret))))⟩
/-- slices.CompactFunc[[][2]int64,[2]int64] -/
def DF255 : AFunc := ⟨66, [.tmp 4], (.seq (.region [⟨some 4, .move (.c .sl0), none, []⟩] .seq)
  (.seq (.seq (.region [⟨some 8, .move (.t 0), none, []⟩,
    ⟨some 9, .len .sl (.t 8), none, []⟩,
    ⟨some 10, .bin .lss (.t 9) (.c (.int .i64 2)), none, []⟩] .seq)
  (.cond (.t 10) (.seq (.region [⟨some 11, .move (.t 0), none, []⟩,
    ⟨some 4, .move (.t 11), none, []⟩] .seq)
  .ret)
  .skip))
  (.seq (.seq (.region [⟨some 5, .move (.c (.int .i64 1)), none, []⟩] .seq)
  (.block 0 (.loop (.seq (.seq (.region [⟨some 12, .move (.t 5), none, []⟩,
    ⟨some 13, .move (.t 0), none, []⟩,
    ⟨some 14, .len .sl (.t 13), none, []⟩,
    ⟨some 15, .bin .lss (.t 12) (.t 14), none, []⟩] .seq)
  (.cond (.t 15) .skip
  (.exit 0)))
  (.seq (.block 1 (.seq (.region [⟨some 18, .move (.t 1), none, []⟩,
    ⟨some 19, .move (.t 0), none, []⟩,
    ⟨some 20, .move (.t 5), none, []⟩,
    ⟨some 21, .indexAddrS 2 (.t 19) (.t 20), none, []⟩,
    ⟨some 22, .loadN 2 (.t 21), none, [10]⟩,
    ⟨some 23, .move (.t 0), none, []⟩,
    ⟨some 24, .move (.t 5), none, []⟩,
    ⟨some 25, .bin .sub (.t 24) (.c (.int .i64 1)), none, []⟩,
    ⟨some 26, .indexAddrS 2 (.t 23) (.t 25), none, []⟩,
    ⟨some 27, .loadN 2 (.t 26), none, [10]⟩,
    ⟨some 28, .callV (.t 18) [(.t 22), (.t 27)], none, []⟩] .sink)
  (.cond (.t 28) (.seq (.region [⟨some 29, .move (.t 0), none, []⟩,
    ⟨some 30, .move (.t 5), none, []⟩,
    ⟨some 31, .slice 2 (.t 29) (some (.t 30)) none none, none, []⟩,
    ⟨some 6, .move (.t 31), none, []⟩] .seq)
  (.seq (.seq (.region [⟨some 7, .move (.c (.int .i64 1)), none, []⟩] .seq)
  (.block 2 (.loop (.seq (.seq (.region [⟨some 32, .move (.t 7), none, []⟩,
    ⟨some 33, .move (.t 6), none, []⟩,
    ⟨some 34, .len .sl (.t 33), none, []⟩,
    ⟨some 35, .bin .lss (.t 32) (.t 34), none, []⟩] .seq)
  (.cond (.t 35) .skip
  (.exit 2)))
  (.seq (.block 3 (.seq (.region [⟨some 38, .move (.t 1), none, []⟩,
    ⟨some 39, .move (.t 6), none, []⟩,
    ⟨some 40, .move (.t 7), none, []⟩,
    ⟨some 41, .indexAddrS 2 (.t 39) (.t 40), none, []⟩,
    ⟨some 42, .loadN 2 (.t 41), none, [10]⟩,
    ⟨some 43, .move (.t 6), none, []⟩,
    ⟨some 44, .move (.t 7), none, []⟩,
    ⟨some 45, .bin .sub (.t 44) (.c (.int .i64 1)), none, []⟩,
    ⟨some 46, .indexAddrS 2 (.t 43) (.t 45), none, []⟩,
    ⟨some 47, .loadN 2 (.t 46), none, [10]⟩,
    ⟨some 48, .callV (.t 38) [(.t 42), (.t 47)], none, []⟩,
    ⟨some 49, .un .not (.t 48), none, []⟩] .sink)
  (.cond (.t 49) (.seq (.region [⟨some 50, .move (.t 0), none, []⟩,
    ⟨some 51, .move (.t 5), none, []⟩,
    ⟨some 52, .move (.t 6), none, []⟩,
    ⟨some 53, .move (.t 7), none, []⟩,
    ⟨some 54, .indexAddrS 2 (.t 52) (.t 53), none, []⟩,
    ⟨some 55, .loadN 2 (.t 54), none, []⟩,
    ⟨some 56, .indexAddrS 2 (.t 50) (.t 51), none, []⟩,
    ⟨none, .store 2 (.t 56) (.t 55), none, []⟩] .seq)
  (.region [⟨some 57, .move (.t 5), none, []⟩,
    ⟨some 58, .bin .add (.t 57) (.c (.int .i64 1)), none, []⟩,
    ⟨some 5, .move (.t 58), none, []⟩] .seq))
  .skip)))
  (.region [⟨some 36, .move (.t 7), none, []⟩,
    ⟨some 37, .bin .add (.t 36) (.c (.int .i64 1)), none, []⟩,
    ⟨some 7, .move (.t 37), none, []⟩] .seq))))))
  (.seq (.region [⟨some 59, .move (.t 0), none, []⟩,
    ⟨some 60, .move (.t 5), none, []⟩,
    ⟨some 61, .slice 2 (.t 59) (some (.t 60)) none none, none, []⟩,
    ⟨none, .clear [(.int .i64 0), (.int .i64 0)] (.t 61), none, []⟩] .seq)
  (.seq (.region [⟨some 62, .move (.t 0), none, []⟩,
    ⟨some 63, .move (.t 5), none, []⟩,
    ⟨some 64, .slice 2 (.t 62) none (some (.t 63)) none, none, []⟩,
    ⟨some 4, .move (.t 64), none, []⟩] .seq)
  .ret))))
  .skip)))
  (.region [⟨some 16, .move (.t 5), none, []⟩,
    ⟨some 17, .bin .add (.t 16) (.c (.int .i64 1)), none, []⟩,
    ⟨some 5, .move (.t 17), none, []⟩] .seq))))))
  (.seq (.region [⟨some 65, .move (.t 0), none, []⟩,
    ⟨some 4, .move (.t 65), none, []⟩] .seq)
  .ret))))⟩
/-- anabranch/win.Gather$3 -/
def DF256 : AFunc := ⟨8, [.tmp 4], (.seq (.region [⟨some 2, .box 96 (.t 0), none, []⟩,
    ⟨some 3, .box 96 (.t 1), none, []⟩,
    ⟨some 4, .move (.c (.bool false)), none, []⟩] .seq)
  (.seq (.region [⟨some 5, .loadN 2 (.t 2), none, []⟩,
    ⟨some 6, .loadN 2 (.t 3), none, []⟩,
    ⟨some 7, .eqs [.i, .i] false (.t 5) (.t 6), none, []⟩,
    ⟨some 4, .move (.t 7), none, []⟩] .seq)
  .ret))⟩
/-- slices.rotateCmpFunc[anabranch/api.Rec] -/
def DF263 : AFunc := ⟨58, [], (.seq (.region [⟨some 12, .move (.t 2), none, []⟩,
    ⟨some 13, .move (.t 1), none, []⟩,
    ⟨some 14, .bin .sub (.t 12) (.t 13), none, []⟩,
    ⟨some 10, .move (.t 14), none, []⟩] .seq)
  (.seq (.region [⟨some 15, .move (.t 3), none, []⟩,
    ⟨some 16, .move (.t 2), none, []⟩,
    ⟨some 17, .bin .sub (.t 15) (.t 16), none, []⟩,
    ⟨some 11, .move (.t 17), none, []⟩] .seq)
  (.seq (.block 0 (.loop (.seq (.seq (.region [⟨some 18, .move (.t 10), none, []⟩,
    ⟨some 19, .move (.t 11), none, []⟩,
    ⟨some 20, .bin .neq (.t 18) (.t 19), none, []⟩] .seq)
  (.cond (.t 20) .skip
  (.exit 0)))
  (.block 1 (.seq (.region [⟨some 21, .move (.t 10), none, []⟩,
    ⟨some 22, .move (.t 11), none, []⟩,
    ⟨some 23, .bin .gtr (.t 21) (.t 22), none, []⟩] .seq)
  (.cond (.t 23) (.seq (.region [⟨some 24, .move (.t 0), none, []⟩,
    ⟨some 25, .move (.t 2), none, []⟩,
    ⟨some 26, .move (.t 10), none, []⟩,
    ⟨some 27, .bin .sub (.t 25) (.t 26), none, []⟩,
    ⟨some 28, .move (.t 2), none, []⟩,
    ⟨some 29, .move (.t 11), none, []⟩,
    ⟨some 30, .move (.t 4), none, []⟩,
    ⟨some 31, .callF 267 [(.t 24), (.t 27), (.t 28), (.t 29), (.t 30)], none, []⟩] .seq)
  (.region [⟨some 32, .move (.t 10), none, []⟩,
    ⟨some 33, .move (.t 11), none, []⟩,
    ⟨some 34, .bin .sub (.t 32) (.t 33), none, []⟩,
    ⟨some 10, .move (.t 34), none, []⟩] .seq))
  (.seq (.region [⟨some 35, .move (.t 0), none, []⟩,
    ⟨some 36, .move (.t 2), none, []⟩,
    ⟨some 37, .move (.t 10), none, []⟩,
    ⟨some 38, .bin .sub (.t 36) (.t 37), none, []⟩,
    ⟨some 39, .move (.t 2), none, []⟩,
    ⟨some 40, .move (.t 11), none, []⟩,
    ⟨some 41, .bin .add (.t 39) (.t 40), none, []⟩,
    ⟨some 42, .move (.t 10), none, []⟩,
    ⟨some 43, .bin .sub (.t 41) (.t 42), none, []⟩,
    ⟨some 44, .move (.t 10), none, []⟩,
    ⟨some 45, .move (.t 4), none, []⟩,
    ⟨some 46, .callF 267 [(.t 35), (.t 38), (.t 43), (.t 44), (.t 45)], none, []⟩] .seq)
  (.region [⟨some 47, .move (.t 11), none, []⟩,
    ⟨some 48, .move (.t 10), none, []⟩,
    ⟨some 49, .bin .sub (.t 47) (.t 48), none, []⟩,
    ⟨some 11, .move (.t 49), none, []⟩] .seq))))))))
  (.region [⟨some 50, .move (.t 0), none, []⟩,
    ⟨some 51, .move (.t 2), none, []⟩,
    ⟨some 52, .move (.t 10), none, []⟩,
    ⟨some 53, .bin .sub (.t 51) (.t 52), none, []⟩,
    ⟨some 54, .move (.t 2), none, []⟩,
    ⟨some 55, .move (.t 10), none, []⟩,
    ⟨some 56, .move (.t 4), none, []⟩,
    ⟨some 57, .callF 267 [(.t 50), (.t 53), (.t 54), (.t 55), (.t 56)], none, []⟩] .seq))))⟩
/-- slices.order2Ordered[int] -/
def DF264 : AFunc := ⟨28, [.tmp 8, .tmp 9], (.seq (.region [⟨some 8, .move (.c (.int .i64 0)), none, []⟩,
    ⟨some 9, .move (.c (.int .i64 0)), none, []⟩] .seq)
  (.seq (.seq (.region [⟨some 10, .move (.t 0), none, []⟩,
    ⟨some 11, .move (.t 2), none, []⟩,
    ⟨some 12, .indexAddrS 1 (.t 10) (.t 11), none, []⟩,
    ⟨some 13, .load1 (.t 12), none, [8]⟩,
    ⟨some 14, .move (.t 0), none, []⟩,
    ⟨some 15, .move (.t 1), none, []⟩,
    ⟨some 16, .indexAddrS 1 (.t 14) (.t 15), none, []⟩,
    ⟨some 17, .load1 (.t 16), none, [8]⟩,
    ⟨some 18, .callF 225 [(.t 13), (.t 17)], none, []⟩] .sink)
  (.cond (.t 18) (.seq (.region [⟨some 19, .move (.t 3), none, []⟩,
    ⟨some 20, .nilCheck (.t 19), none, []⟩,
    ⟨some 21, .load1 (.t 20), none, []⟩,
    ⟨some 22, .bin .add (.t 21) (.c (.int .i64 1)), none, []⟩,
    ⟨some 23, .nilCheck (.t 19), none, []⟩,
    ⟨none, .store 1 (.t 23) (.t 22), none, []⟩] .seq)
  (.seq (.region [⟨some 24, .move (.t 2), none, []⟩,
    ⟨some 25, .move (.t 1), none, []⟩,
    ⟨some 8, .move (.t 24), none, []⟩,
    ⟨some 9, .move (.t 25), none, []⟩] .seq)
  .ret))
  .skip))
  (.seq (.region [⟨some 26, .move (.t 1), none, []⟩,
    ⟨some 27, .move (.t 2), none, []⟩,
    ⟨some 8, .move (.t 26), none, []⟩,
    ⟨some 9, .move (.t 27), none, []⟩] .seq)
  .ret)))⟩
/-- slices.pdqsortCmpFunc[[2]int64] -/
def DF265 : AFunc := ⟨148, [], (.seq (.region [⟨some 10, .move (.c (.bool true)), none, []⟩] .seq)
  (.seq (.region [⟨some 11, .move (.c (.bool true)), none, []⟩] .seq)
  (.block 0 (.loop (.block 1 (.seq (.region [⟨some 21, .move (.t 2), none, []⟩,
    ⟨some 22, .move (.t 1), none, []⟩,
    ⟨some 23, .bin .sub (.t 21) (.t 22), none, []⟩,
    ⟨some 12, .move (.t 23), none, []⟩] .seq)
  (.seq (.seq (.region [⟨some 24, .move (.t 12), none, []⟩,
    ⟨some 25, .bin .leq (.t 24) (.c (.int .i64 12)), none, []⟩] .seq)
  (.cond (.t 25) (.seq (.region [⟨some 26, .move (.t 0), none, []⟩,
    ⟨some 27, .move (.t 1), none, []⟩,
    ⟨some 28, .move (.t 2), none, []⟩,
    ⟨some 29, .move (.t 4), none, []⟩,
    ⟨some 30, .callF 268 [(.t 26), (.t 27), (.t 28), (.t 29)], none, []⟩] .seq)
  .ret)
  .skip))
  (.seq (.seq (.region [⟨some 31, .move (.t 3), none, []⟩,
    ⟨some 32, .bin .eql (.t 31) (.c (.int .i64 0)), none, []⟩] .seq)
  (.cond (.t 32) (.seq (.region [⟨some 33, .move (.t 0), none, []⟩,
    ⟨some 34, .move (.t 1), none, []⟩,
    ⟨some 35, .move (.t 2), none, []⟩,
    ⟨some 36, .move (.t 4), none, []⟩,
    ⟨some 37, .callF 269 [(.t 33), (.t 34), (.t 35), (.t 36)], none, []⟩] .seq)
  .ret)
  .skip))
  (.seq (.seq (.region [⟨some 38, .move (.t 10), none, []⟩,
    ⟨some 39, .un .not (.t 38), none, []⟩] .seq)
  (.cond (.t 39) (.seq (.region [⟨some 40, .move (.t 0), none, []⟩,
    ⟨some 41, .move (.t 1), none, []⟩,
    ⟨some 42, .move (.t 2), none, []⟩,
    ⟨some 43, .move (.t 4), none, []⟩,
    ⟨some 44, .callF 270 [(.t 40), (.t 41), (.t 42), (.t 43)], none, []⟩] .seq)
  (.region [⟨some 45, .move (.t 3), none, []⟩,
    ⟨some 46, .bin .sub (.t 45) (.c (.int .i64 1)), none, []⟩,
    ⟨some 3, .move (.t 46), none, []⟩] .seq))
  .skip))
  (.seq (.region [⟨some 48, .move (.t 0), none, []⟩,
    ⟨some 49, .move (.t 1), none, []⟩,
    ⟨some 50, .move (.t 2), none, []⟩,
    ⟨some 51, .move (.t 4), none, []⟩,
    ⟨some 52, .callF 271 [(.t 48), (.t 49), (.t 50), (.t 51)], none, []⟩,
    ⟨some 47, .move (.t 52), none, []⟩,
    ⟨some 53, .extract (.t 47) 0, none, []⟩,
    ⟨some 54, .extract (.t 47) 1, none, []⟩,
    ⟨some 13, .move (.t 53), none, []⟩,
    ⟨some 14, .move (.t 54), none, []⟩] .seq)
  (.seq (.seq (.region [⟨some 55, .move (.t 14), none, []⟩,
    ⟨some 56, .bin .eql (.t 55) (.c (.int .i64 2)), none, []⟩] .seq)
  (.cond (.t 56) (.seq (.region [⟨some 57, .move (.t 0), none, []⟩,
    ⟨some 58, .move (.t 1), none, []⟩,
    ⟨some 59, .move (.t 2), none, []⟩,
    ⟨some 60, .move (.t 4), none, []⟩,
    ⟨some 61, .callF 272 [(.t 57), (.t 58), (.t 59), (.t 60)], none, []⟩] .seq)
  (.seq (.region [⟨some 62, .move (.t 2), none, []⟩,
    ⟨some 63, .bin .sub (.t 62) (.c (.int .i64 1)), none, []⟩,
    ⟨some 64, .move (.t 13), none, []⟩,
    ⟨some 65, .move (.t 1), none, []⟩,
    ⟨some 66, .bin .sub (.t 64) (.t 65), none, []⟩,
    ⟨some 67, .bin .sub (.t 63) (.t 66), none, []⟩,
    ⟨some 13, .move (.t 67), none, []⟩] .seq)
  (.region [⟨some 14, .move (.c (.int .i64 1)), none, []⟩] .seq)))
  .skip))
  (.seq (.seq (.region [⟨some 68, .move (.t 10), none, []⟩,
    ⟨some 69, .move (.t 68), none, []⟩,
    ⟨some 70, .move (.t 11), some (69, true), []⟩,
    ⟨some 71, .pick (.t 69) (.t 70) (.c (.bool false)), none, []⟩,
    ⟨some 72, .move (.t 71), none, []⟩,
    ⟨some 73, .move (.t 14), some (72, true), []⟩,
    ⟨some 74, .bin .eql (.t 73) (.c (.int .i64 1)), some (72, true), []⟩,
    ⟨some 75, .pick (.t 72) (.t 74) (.c (.bool false)), none, []⟩] .seq)
  (.cond (.t 75) (.seq (.region [⟨some 76, .move (.t 0), none, []⟩,
    ⟨some 77, .move (.t 1), none, []⟩,
    ⟨some 78, .move (.t 2), none, []⟩,
    ⟨some 79, .move (.t 4), none, []⟩,
    ⟨some 80, .callF 273 [(.t 76), (.t 77), (.t 78), (.t 79)], none, []⟩] .seq)
  (.cond (.t 80) .ret
  .skip))
  .skip))
  (.seq (.seq (.region [⟨some 81, .move (.t 1), none, []⟩,
    ⟨some 82, .bin .gtr (.t 81) (.c (.int .i64 0)), none, []⟩,
    ⟨some 83, .move (.t 82), none, []⟩,
    ⟨some 84, .move (.t 4), some (83, true), []⟩,
    ⟨some 85, .move (.t 0), some (83, true), []⟩,
    ⟨some 86, .move (.t 1), some (83, true), []⟩,
    ⟨some 87, .bin .sub (.t 86) (.c (.int .i64 1)), some (83, true), []⟩,
    ⟨some 88, .indexAddrS 2 (.t 85) (.t 87), some (83, true), []⟩,
    ⟨some 89, .loadN 2 (.t 88), some (83, true), [13]⟩,
    ⟨some 90, .move (.t 0), some (83, true), []⟩,
    ⟨some 91, .move (.t 13), some (83, true), []⟩,
    ⟨some 92, .indexAddrS 2 (.t 90) (.t 91), some (83, true), []⟩,
    ⟨some 93, .loadN 2 (.t 92), some (83, true), [13]⟩,
    ⟨some 94, .callV (.t 84) [(.t 89), (.t 93)], some (83, true), []⟩,
    ⟨some 95, .bin .lss (.t 94) (.c (.int .i64 0)), some (83, true), []⟩,
    ⟨some 96, .un .not (.t 95), some (83, true), []⟩,
    ⟨some 97, .pick (.t 83) (.t 96) (.c (.bool false)), none, []⟩] .sink)
  (.cond (.t 97) (.seq (.region [⟨some 98, .move (.t 0), none, []⟩,
    ⟨some 99, .move (.t 1), none, []⟩,
    ⟨some 100, .move (.t 2), none, []⟩,
    ⟨some 101, .move (.t 13), none, []⟩,
    ⟨some 102, .move (.t 4), none, []⟩,
    ⟨some 103, .callF 274 [(.t 98), (.t 99), (.t 100), (.t 101), (.t 102)], none, []⟩,
    ⟨some 15, .move (.t 103), none, []⟩] .seq)
  (.seq (.region [⟨some 104, .move (.t 15), none, []⟩,
    ⟨some 1, .move (.t 104), none, []⟩] .seq)
  (.exit 1)))
  .skip))
  (.seq (.region [⟨some 106, .move (.t 0), none, []⟩,
    ⟨some 107, .move (.t 1), none, []⟩,
    ⟨some 108, .move (.t 2), none, []⟩,
    ⟨some 109, .move (.t 13), none, []⟩,
    ⟨some 110, .move (.t 4), none, []⟩,
    ⟨some 111, .callF 275 [(.t 106), (.t 107), (.t 108), (.t 109), (.t 110)], none, []⟩,
    ⟨some 105, .move (.t 111), none, []⟩,
    ⟨some 112, .extract (.t 105) 0, none, []⟩,
    ⟨some 113, .extract (.t 105) 1, none, []⟩,
    ⟨some 16, .move (.t 112), none, []⟩,
    ⟨some 17, .move (.t 113), none, []⟩] .seq)
  (.seq (.region [⟨some 114, .move (.t 17), none, []⟩,
    ⟨some 11, .move (.t 114), none, []⟩] .seq)
  (.seq (.region [⟨some 115, .move (.t 16), none, []⟩,
    ⟨some 116, .move (.t 1), none, []⟩,
    ⟨some 117, .bin .sub (.t 115) (.t 116), none, []⟩,
    ⟨some 118, .move (.t 2), none, []⟩,
    ⟨some 119, .move (.t 16), none, []⟩,
    ⟨some 120, .bin .sub (.t 118) (.t 119), none, []⟩,
    ⟨some 18, .move (.t 117), none, []⟩,
    ⟨some 19, .move (.t 120), none, []⟩] .seq)
  (.seq (.region [⟨some 121, .move (.t 12), none, []⟩,
    ⟨some 122, .bin .quo (.t 121) (.c (.int .i64 8)), none, []⟩,
    ⟨some 20, .move (.t 122), none, []⟩] .seq)
  (.seq (.region [⟨some 123, .move (.t 18), none, []⟩,
    ⟨some 124, .move (.t 19), none, []⟩,
    ⟨some 125, .bin .lss (.t 123) (.t 124), none, []⟩] .seq)
  (.cond (.t 125) (.seq (.region [⟨some 126, .move (.t 18), none, []⟩,
    ⟨some 127, .move (.t 20), none, []⟩,
    ⟨some 128, .bin .geq (.t 126) (.t 127), none, []⟩,
    ⟨some 10, .move (.t 128), none, []⟩] .seq)
  (.seq (.region [⟨some 129, .move (.t 0), none, []⟩,
    ⟨some 130, .move (.t 1), none, []⟩,
    ⟨some 131, .move (.t 16), none, []⟩,
    ⟨some 132, .move (.t 3), none, []⟩,
    ⟨some 133, .move (.t 4), none, []⟩,
    ⟨some 134, .callF 265 [(.t 129), (.t 130), (.t 131), (.t 132), (.t 133)], none, []⟩] .seq)
  (.region [⟨some 135, .move (.t 16), none, []⟩,
    ⟨some 136, .bin .add (.t 135) (.c (.int .i64 1)), none, []⟩,
    ⟨some 1, .move (.t 136), none, []⟩] .seq)))
  (.seq (.region [⟨some 137, .move (.t 19), none, []⟩,
    ⟨some 138, .move (.t 20), none, []⟩,
    ⟨some 139, .bin .geq (.t 137) (.t 138), none, []⟩,
    ⟨some 10, .move (.t 139), none, []⟩] .seq)
  (.seq (.region [⟨some 140, .move (.t 0), none, []⟩,
    ⟨some 141, .move (.t 16), none, []⟩,
    ⟨some 142, .bin .add (.t 141) (.c (.int .i64 1)), none, []⟩,
    ⟨some 143, .move (.t 2), none, []⟩,
    ⟨some 144, .move (.t 3), none, []⟩,
    ⟨some 145, .move (.t 4), none, []⟩,
    ⟨some 146, .callF 265 [(.t 140), (.t 142), (.t 143), (.t 144), (.t 145)], none, []⟩] .seq)
  (.region [⟨some 147, .move (.t 16), none, []⟩,
    ⟨some 2, .move (.t 147), none, []⟩] .seq))))))))))))))))))))))⟩
/-- slices.swapRangeCmpFunc[anabranch/api.Rec] -/
def DF267 : AFunc := ⟨38, [], (.seq (.region [⟨some 10, .move (.c (.int .i64 0)), none, []⟩] .seq)
  (.block 0 (.loop (.seq (.seq (.region [⟨some 11, .move (.t 10), none, []⟩,
    ⟨some 12, .move (.t 3), none, []⟩,
    ⟨some 13, .bin .lss (.t 11) (.t 12), none, []⟩] .seq)
  (.cond (.t 13) .skip
  (.exit 0)))
  (.seq (.block 1 (.region [⟨some 16, .move (.t 0), none, []⟩,
    ⟨some 17, .move (.t 1), none, []⟩,
    ⟨some 18, .move (.t 10), none, []⟩,
    ⟨some 19, .bin .add (.t 17) (.t 18), none, []⟩,
    ⟨some 20, .move (.t 0), none, []⟩,
    ⟨some 21, .move (.t 2), none, []⟩,
    ⟨some 22, .move (.t 10), none, []⟩,
    ⟨some 23, .bin .add (.t 21) (.t 22), none, []⟩,
    ⟨some 24, .move (.t 0), none, []⟩,
    ⟨some 25, .move (.t 2), none, []⟩,
    ⟨some 26, .move (.t 10), none, []⟩,
    ⟨some 27, .bin .add (.t 25) (.t 26), none, []⟩,
    ⟨some 28, .indexAddrS 6 (.t 24) (.t 27), none, []⟩,
    ⟨some 29, .loadN 6 (.t 28), none, [21]⟩,
    ⟨some 30, .move (.t 0), none, []⟩,
    ⟨some 31, .move (.t 1), none, []⟩,
    ⟨some 32, .move (.t 10), none, []⟩,
    ⟨some 33, .bin .add (.t 31) (.t 32), none, []⟩,
    ⟨some 34, .indexAddrS 6 (.t 30) (.t 33), none, []⟩,
    ⟨some 35, .loadN 6 (.t 34), none, [21]⟩,
    ⟨some 36, .indexAddrS 6 (.t 16) (.t 19), none, []⟩,
    ⟨none, .store 6 (.t 36) (.t 29), none, []⟩,
    ⟨some 37, .indexAddrS 6 (.t 20) (.t 23), none, []⟩,
    ⟨none, .store 6 (.t 37) (.t 35), none, []⟩] .sink))
  (.region [⟨some 14, .move (.t 10), none, []⟩,
    ⟨some 15, .bin .add (.t 14) (.c (.int .i64 1)), none, []⟩,
    ⟨some 10, .move (.t 15), none, []⟩] .seq))))))⟩
/-- slices.insertionSortCmpFunc[[2]int64] -/
def DF268 : AFunc := ⟨53, [], (.seq (.region [⟨some 10, .move (.t 1), none, []⟩,
    ⟨some 11, .bin .add (.t 10) (.c (.int .i64 1)), none, []⟩,
    ⟨some 8, .move (.t 11), none, []⟩] .seq)
  (.block 0 (.loop (.seq (.seq (.region [⟨some 12, .move (.t 8), none, []⟩,
    ⟨some 13, .move (.t 2), none, []⟩,
    ⟨some 14, .bin .lss (.t 12) (.t 13), none, []⟩] .seq)
  (.cond (.t 14) .skip
  (.exit 0)))
  (.seq (.block 1 (.seq (.region [⟨some 17, .move (.t 8), none, []⟩,
    ⟨some 9, .move (.t 17), none, []⟩] .seq)
  (.block 2 (.loop (.seq (.seq (.region [⟨some 18, .move (.t 9), none, []⟩,
    ⟨some 19, .move (.t 1), none, []⟩,
    ⟨some 20, .bin .gtr (.t 18) (.t 19), none, []⟩,
    ⟨some 21, .move (.t 20), none, []⟩,
    ⟨some 22, .move (.t 3), some (21, true), []⟩,
    ⟨some 23, .move (.t 0), some (21, true), []⟩,
    ⟨some 24, .move (.t 9), some (21, true), []⟩,
    ⟨some 25, .indexAddrS 2 (.t 23) (.t 24), some (21, true), []⟩,
    ⟨some 26, .loadN 2 (.t 25), some (21, true), [14]⟩,
    ⟨some 27, .move (.t 0), some (21, true), []⟩,
    ⟨some 28, .move (.t 9), some (21, true), []⟩,
    ⟨some 29, .bin .sub (.t 28) (.c (.int .i64 1)), some (21, true), []⟩,
    ⟨some 30, .indexAddrS 2 (.t 27) (.t 29), some (21, true), []⟩,
    ⟨some 31, .loadN 2 (.t 30), some (21, true), [14]⟩,
    ⟨some 32, .callV (.t 22) [(.t 26), (.t 31)], some (21, true), []⟩,
    ⟨some 33, .bin .lss (.t 32) (.c (.int .i64 0)), some (21, true), []⟩,
    ⟨some 34, .pick (.t 21) (.t 33) (.c (.bool false)), none, []⟩] .sink)
  (.cond (.t 34) .skip
  (.exit 2)))
  (.seq (.block 3 (.region [⟨some 37, .move (.t 0), none, []⟩,
    ⟨some 38, .move (.t 9), none, []⟩,
    ⟨some 39, .move (.t 0), none, []⟩,
    ⟨some 40, .move (.t 9), none, []⟩,
    ⟨some 41, .bin .sub (.t 40) (.c (.int .i64 1)), none, []⟩,
    ⟨some 42, .move (.t 0), none, []⟩,
    ⟨some 43, .move (.t 9), none, []⟩,
    ⟨some 44, .bin .sub (.t 43) (.c (.int .i64 1)), none, []⟩,
    ⟨some 45, .indexAddrS 2 (.t 42) (.t 44), none, []⟩,
    ⟨some 46, .loadN 2 (.t 45), none, [15]⟩,
    ⟨some 47, .move (.t 0), none, []⟩,
    ⟨some 48, .move (.t 9), none, []⟩,
    ⟨some 49, .indexAddrS 2 (.t 47) (.t 48), none, []⟩,
    ⟨some 50, .loadN 2 (.t 49), none, [15]⟩,
    ⟨some 51, .indexAddrS 2 (.t 37) (.t 38), none, []⟩,
    ⟨none, .store 2 (.t 51) (.t 46), none, []⟩,
    ⟨some 52, .indexAddrS 2 (.t 39) (.t 41), none, []⟩,
    ⟨none, .store 2 (.t 52) (.t 50), none, []⟩] .sink))
  (.region [⟨some 35, .move (.t 9), none, []⟩,
    ⟨some 36, .bin .sub (.t 35) (.c (.int .i64 1)), none, []⟩,
    ⟨some 9, .move (.t 36), none, []⟩] .seq)))))))
  (.region [⟨some 15, .move (.t 8), none, []⟩,
    ⟨some 16, .bin .add (.t 15) (.c (.int .i64 1)), none, []⟩,
    ⟨some 8, .move (.t 16), none, []⟩] .seq))))))⟩
/-- slices.heapSortCmpFunc[[2]int64] -/
def DF269 : AFunc := ⟨60, [], (.seq (.region [⟨some 13, .move (.t 1), none, []⟩,
    ⟨some 8, .move (.t 13), none, []⟩] .seq)
  (.seq (.region [⟨some 9, .move (.c (.int .i64 0)), none, []⟩] .seq)
  (.seq (.region [⟨some 14, .move (.t 2), none, []⟩,
    ⟨some 15, .move (.t 1), none, []⟩,
    ⟨some 16, .bin .sub (.t 14) (.t 15), none, []⟩,
    ⟨some 10, .move (.t 16), none, []⟩] .seq)
  (.seq (.seq (.region [⟨some 17, .move (.t 10), none, []⟩,
    ⟨some 18, .bin .sub (.t 17) (.c (.int .i64 1)), none, []⟩,
    ⟨some 19, .bin .quo (.t 18) (.c (.int .i64 2)), none, []⟩,
    ⟨some 11, .move (.t 19), none, []⟩] .seq)
  (.block 0 (.loop (.seq (.seq (.region [⟨some 20, .move (.t 11), none, []⟩,
    ⟨some 21, .bin .geq (.t 20) (.c (.int .i64 0)), none, []⟩] .seq)
  (.cond (.t 21) .skip
  (.exit 0)))
  (.seq (.block 1 (.region [⟨some 24, .move (.t 0), none, []⟩,
    ⟨some 25, .move (.t 11), none, []⟩,
    ⟨some 26, .move (.t 10), none, []⟩,
    ⟨some 27, .move (.t 8), none, []⟩,
    ⟨some 28, .move (.t 3), none, []⟩,
    ⟨some 29, .callF 276 [(.t 24), (.t 25), (.t 26), (.t 27), (.t 28)], none, []⟩] .seq))
  (.region [⟨some 22, .move (.t 11), none, []⟩,
    ⟨some 23, .bin .sub (.t 22) (.c (.int .i64 1)), none, []⟩,
    ⟨some 11, .move (.t 23), none, []⟩] .seq))))))
  (.seq (.region [⟨some 30, .move (.t 10), none, []⟩,
    ⟨some 31, .bin .sub (.t 30) (.c (.int .i64 1)), none, []⟩,
    ⟨some 12, .move (.t 31), none, []⟩] .seq)
  (.block 2 (.loop (.seq (.seq (.region [⟨some 32, .move (.t 12), none, []⟩,
    ⟨some 33, .bin .geq (.t 32) (.c (.int .i64 0)), none, []⟩] .seq)
  (.cond (.t 33) .skip
  (.exit 2)))
  (.seq (.block 3 (.seq (.region [⟨some 36, .move (.t 0), none, []⟩,
    ⟨some 37, .move (.t 8), none, []⟩,
    ⟨some 38, .move (.t 0), none, []⟩,
    ⟨some 39, .move (.t 8), none, []⟩,
    ⟨some 40, .move (.t 12), none, []⟩,
    ⟨some 41, .bin .add (.t 39) (.t 40), none, []⟩,
    ⟨some 42, .move (.t 0), none, []⟩,
    ⟨some 43, .move (.t 8), none, []⟩,
    ⟨some 44, .move (.t 12), none, []⟩,
    ⟨some 45, .bin .add (.t 43) (.t 44), none, []⟩,
    ⟨some 46, .indexAddrS 2 (.t 42) (.t 45), none, []⟩,
    ⟨some 47, .loadN 2 (.t 46), none, [17]⟩,
    ⟨some 48, .move (.t 0), none, []⟩,
    ⟨some 49, .move (.t 8), none, []⟩,
    ⟨some 50, .indexAddrS 2 (.t 48) (.t 49), none, []⟩,
    ⟨some 51, .loadN 2 (.t 50), none, [17]⟩,
    ⟨some 52, .indexAddrS 2 (.t 36) (.t 37), none, []⟩,
    ⟨none, .store 2 (.t 52) (.t 47), none, []⟩,
    ⟨some 53, .indexAddrS 2 (.t 38) (.t 41), none, []⟩,
    ⟨none, .store 2 (.t 53) (.t 51), none, []⟩] .sink)
  (.region [⟨some 54, .move (.t 0), none, []⟩,
    ⟨some 55, .move (.t 9), none, []⟩,
    ⟨some 56, .move (.t 12), none, []⟩,
    ⟨some 57, .move (.t 8), none, []⟩,
    ⟨some 58, .move (.t 3), none, []⟩,
    ⟨some 59, .callF 276 [(.t 54), (.t 55), (.t 56), (.t 57), (.t 58)], none, []⟩] .seq)))
  (.region [⟨some 34, .move (.t 12), none, []⟩,
    ⟨some 35, .bin .sub (.t 34) (.c (.int .i64 1)), none, []⟩,
    ⟨some 12, .move (.t 35), none, []⟩] .seq))))))))))⟩
/-- slices.breakPatternsCmpFunc[[2]int64] -/
def DF270 : AFunc := ⟨67, [], (.seq (.region [⟨some 13, .move (.t 2), none, []⟩,
    ⟨some 14, .move (.t 1), none, []⟩,
    ⟨some 15, .bin .sub (.t 13) (.t 14), none, []⟩,
    ⟨some 8, .move (.t 15), none, []⟩] .seq)
  (.seq (.region [⟨some 16, .move (.t 8), none, []⟩,
    ⟨some 17, .bin .geq (.t 16) (.c (.int .i64 8)), none, []⟩] .seq)
  (.cond (.t 17) (.seq (.region [⟨some 18, .move (.t 8), none, []⟩,
    ⟨some 19, .conv .u64 (.t 18), none, []⟩,
    ⟨some 9, .alloc 304 [(.int .u64 0)], none, []⟩,
    ⟨none, .store 1 (.t 9) (.t 19), none, []⟩] .seq)
  (.seq (.region [⟨some 20, .move (.t 8), none, []⟩,
    ⟨some 21, .callF 245 [(.t 20)], none, []⟩,
    ⟨some 10, .move (.t 21), none, []⟩] .seq)
  (.seq (.region [⟨some 22, .move (.t 1), none, []⟩,
    ⟨some 23, .move (.t 8), none, []⟩,
    ⟨some 24, .bin .quo (.t 23) (.c (.int .i64 4)), none, []⟩,
    ⟨some 25, .bin .mul (.t 24) (.c (.int .i64 2)), none, []⟩,
    ⟨some 26, .bin .add (.t 22) (.t 25), none, []⟩,
    ⟨some 27, .bin .sub (.t 26) (.c (.int .i64 1)), none, []⟩,
    ⟨some 11, .move (.t 27), none, []⟩] .seq)
  (.block 0 (.loop (.seq (.seq (.region [⟨some 28, .move (.t 11), none, []⟩,
    ⟨some 29, .move (.t 1), none, []⟩,
    ⟨some 30, .move (.t 8), none, []⟩,
    ⟨some 31, .bin .quo (.t 30) (.c (.int .i64 4)), none, []⟩,
    ⟨some 32, .bin .mul (.t 31) (.c (.int .i64 2)), none, []⟩,
    ⟨some 33, .bin .add (.t 29) (.t 32), none, []⟩,
    ⟨some 34, .bin .add (.t 33) (.c (.int .i64 1)), none, []⟩,
    ⟨some 35, .bin .leq (.t 28) (.t 34), none, []⟩] .seq)
  (.cond (.t 35) .skip
  (.exit 0)))
  (.seq (.block 1 (.seq (.region [⟨some 38, .callF 246 [(.t 9)], none, []⟩,
    ⟨some 39, .move (.t 10), none, []⟩,
    ⟨some 40, .bin .sub (.t 39) (.c (.int .u64 1)), none, []⟩,
    ⟨some 41, .bin .and (.t 38) (.t 40), none, []⟩,
    ⟨some 42, .conv .i64 (.t 41), none, []⟩,
    ⟨some 12, .move (.t 42), none, []⟩] .seq)
  (.seq (.seq (.region [⟨some 43, .move (.t 12), none, []⟩,
    ⟨some 44, .move (.t 8), none, []⟩,
    ⟨some 45, .bin .geq (.t 43) (.t 44), none, []⟩] .seq)
  (.cond (.t 45) (.region [⟨some 46, .move (.t 12), none, []⟩,
    ⟨some 47, .move (.t 8), none, []⟩,
    ⟨some 48, .bin .sub (.t 46) (.t 47), none, []⟩,
    ⟨some 12, .move (.t 48), none, []⟩] .seq)
  .skip))
  (.region [⟨some 49, .move (.t 0), none, []⟩,
    ⟨some 50, .move (.t 11), none, []⟩,
    ⟨some 51, .move (.t 0), none, []⟩,
    ⟨some 52, .move (.t 1), none, []⟩,
    ⟨some 53, .move (.t 12), none, []⟩,
    ⟨some 54, .bin .add (.t 52) (.t 53), none, []⟩,
    ⟨some 55, .move (.t 0), none, []⟩,
    ⟨some 56, .move (.t 1), none, []⟩,
    ⟨some 57, .move (.t 12), none, []⟩,
    ⟨some 58, .bin .add (.t 56) (.t 57), none, []⟩,
    ⟨some 59, .indexAddrS 2 (.t 55) (.t 58), none, []⟩,
    ⟨some 60, .loadN 2 (.t 59), none, [17]⟩,
    ⟨some 61, .move (.t 0), none, []⟩,
    ⟨some 62, .move (.t 11), none, []⟩,
    ⟨some 63, .indexAddrS 2 (.t 61) (.t 62), none, []⟩,
    ⟨some 64, .loadN 2 (.t 63), none, [17]⟩,
    ⟨some 65, .indexAddrS 2 (.t 49) (.t 50), none, []⟩,
    ⟨none, .store 2 (.t 65) (.t 60), none, []⟩,
    ⟨some 66, .indexAddrS 2 (.t 51) (.t 54), none, []⟩,
    ⟨none, .store 2 (.t 66) (.t 64), none, []⟩] .sink))))
  (.region [⟨some 36, .move (.t 11), none, []⟩,
    ⟨some 37, .bin .add (.t 36) (.c (.int .i64 1)), none, []⟩,
    ⟨some 11, .move (.t 37), none, []⟩] .seq))))))))
  .skip)))⟩
/-- slices.choosePivotCmpFunc[[2]int64] -/
def DF271 : AFunc := ⟨63, [.tmp 8, .tmp 9], (.seq (.region [⟨some 8, .move (.c (.int .i64 0)), none, []⟩,
    ⟨some 9, .move (.c (.int .i64 0)), none, []⟩] .seq)
  (.seq (.region [⟨some 15, .move (.t 2), none, []⟩,
    ⟨some 16, .move (.t 1), none, []⟩,
    ⟨some 17, .bin .sub (.t 15) (.t 16), none, []⟩,
    ⟨some 10, .move (.t 17), none, []⟩] .seq)
  (.seq (.region [⟨some 11, .alloc 3 [(.int .i64 0)], none, []⟩] .seq)
  (.seq (.region [⟨some 18, .move (.t 1), none, []⟩,
    ⟨some 19, .move (.t 10), none, []⟩,
    ⟨some 20, .bin .quo (.t 19) (.c (.int .i64 4)), none, []⟩,
    ⟨some 21, .bin .mul (.t 20) (.c (.int .i64 1)), none, []⟩,
    ⟨some 22, .bin .add (.t 18) (.t 21), none, []⟩,
    ⟨some 12, .move (.t 22), none, []⟩] .seq)
  (.seq (.region [⟨some 23, .move (.t 1), none, []⟩,
    ⟨some 24, .move (.t 10), none, []⟩,
    ⟨some 25, .bin .quo (.t 24) (.c (.int .i64 4)), none, []⟩,
    ⟨some 26, .bin .mul (.t 25) (.c (.int .i64 2)), none, []⟩,
    ⟨some 27, .bin .add (.t 23) (.t 26), none, []⟩,
    ⟨some 13, .move (.t 27), none, []⟩] .seq)
  (.seq (.region [⟨some 28, .move (.t 1), none, []⟩,
    ⟨some 29, .move (.t 10), none, []⟩,
    ⟨some 30, .bin .quo (.t 29) (.c (.int .i64 4)), none, []⟩,
    ⟨some 31, .bin .mul (.t 30) (.c (.int .i64 3)), none, []⟩,
    ⟨some 32, .bin .add (.t 28) (.t 31), none, []⟩,
    ⟨some 14, .move (.t 32), none, []⟩] .seq)
  (.seq (.seq (.region [⟨some 33, .move (.t 10), none, []⟩,
    ⟨some 34, .bin .geq (.t 33) (.c (.int .i64 8)), none, []⟩] .seq)
  (.cond (.t 34) (.seq (.seq (.region [⟨some 35, .move (.t 10), none, []⟩,
    ⟨some 36, .bin .geq (.t 35) (.c (.int .i64 50)), none, []⟩] .seq)
  (.cond (.t 36) (.seq (.region [⟨some 37, .move (.t 0), none, []⟩,
    ⟨some 38, .move (.t 12), none, []⟩,
    ⟨some 39, .move (.t 3), none, []⟩,
    ⟨some 40, .callF 277 [(.t 37), (.t 38), (.t 11), (.t 39)], none, []⟩,
    ⟨some 12, .move (.t 40), none, []⟩] .seq)
  (.seq (.region [⟨some 41, .move (.t 0), none, []⟩,
    ⟨some 42, .move (.t 13), none, []⟩,
    ⟨some 43, .move (.t 3), none, []⟩,
    ⟨some 44, .callF 277 [(.t 41), (.t 42), (.t 11), (.t 43)], none, []⟩,
    ⟨some 13, .move (.t 44), none, []⟩] .seq)
  (.region [⟨some 45, .move (.t 0), none, []⟩,
    ⟨some 46, .move (.t 14), none, []⟩,
    ⟨some 47, .move (.t 3), none, []⟩,
    ⟨some 48, .callF 277 [(.t 45), (.t 46), (.t 11), (.t 47)], none, []⟩,
    ⟨some 14, .move (.t 48), none, []⟩] .seq)))
  .skip))
  (.region [⟨some 49, .move (.t 0), none, []⟩,
    ⟨some 50, .move (.t 12), none, []⟩,
    ⟨some 51, .move (.t 13), none, []⟩,
    ⟨some 52, .move (.t 14), none, []⟩,
    ⟨some 53, .move (.t 3), none, []⟩,
    ⟨some 54, .callF 278 [(.t 49), (.t 50), (.t 51), (.t 52), (.t 11), (.t 53)], none, []⟩,
    ⟨some 13, .move (.t 54), none, []⟩] .seq))
  .skip))
  (.seq (.region [⟨some 55, .load1 (.t 11), none, []⟩] .seq)
  (.block 0 (.seq (.region [⟨some 58, .bin .eql (.t 55) (.c (.int .i64 0)), none, []⟩,
    ⟨some 57, .move (.t 58), none, []⟩] .seq)
  (.cond (.t 57) (.seq (.region [⟨some 59, .move (.t 13), none, []⟩,
    ⟨some 8, .move (.t 59), none, []⟩,
    ⟨some 9, .move (.c (.int .i64 1)), none, []⟩] .seq)
  .ret)
  (.seq (.region [⟨some 61, .bin .eql (.t 55) (.c (.int .i64 12)), none, []⟩,
    ⟨some 60, .move (.t 61), none, []⟩] .seq)
  (.cond (.t 60) (.seq (.region [⟨some 62, .move (.t 13), none, []⟩,
    ⟨some 8, .move (.t 62), none, []⟩,
    ⟨some 9, .move (.c (.int .i64 2)), none, []⟩] .seq)
  .ret)
  (.seq (.region [⟨some 56, .move (.t 13), none, []⟩,
    ⟨some 8, .move (.t 56), none, []⟩,
    ⟨some 9, .move (.c (.int .i64 0)), none, []⟩] .seq)
  .ret))))))))))))))⟩
/-- slices.reverseRangeCmpFunc[[2]int64] -/
def DF272 : AFunc := ⟨34, [], (.seq (.region [⟨some 10, .move (.t 1), none, []⟩,
    ⟨some 8, .move (.t 10), none, []⟩] .seq)
  (.seq (.region [⟨some 11, .move (.t 2), none, []⟩,
    ⟨some 12, .bin .sub (.t 11) (.c (.int .i64 1)), none, []⟩,
    ⟨some 9, .move (.t 12), none, []⟩] .seq)
  (.block 0 (.loop (.seq (.seq (.region [⟨some 13, .move (.t 8), none, []⟩,
    ⟨some 14, .move (.t 9), none, []⟩,
    ⟨some 15, .bin .lss (.t 13) (.t 14), none, []⟩] .seq)
  (.cond (.t 15) .skip
  (.exit 0)))
  (.block 1 (.seq (.region [⟨some 16, .move (.t 0), none, []⟩,
    ⟨some 17, .move (.t 8), none, []⟩,
    ⟨some 18, .move (.t 0), none, []⟩,
    ⟨some 19, .move (.t 9), none, []⟩,
    ⟨some 20, .move (.t 0), none, []⟩,
    ⟨some 21, .move (.t 9), none, []⟩,
    ⟨some 22, .indexAddrS 2 (.t 20) (.t 21), none, []⟩,
    ⟨some 23, .loadN 2 (.t 22), none, [13]⟩,
    ⟨some 24, .move (.t 0), none, []⟩,
    ⟨some 25, .move (.t 8), none, []⟩,
    ⟨some 26, .indexAddrS 2 (.t 24) (.t 25), none, []⟩,
    ⟨some 27, .loadN 2 (.t 26), none, [13]⟩,
    ⟨some 28, .indexAddrS 2 (.t 16) (.t 17), none, []⟩,
    ⟨none, .store 2 (.t 28) (.t 23), none, []⟩,
    ⟨some 29, .indexAddrS 2 (.t 18) (.t 19), none, []⟩,
    ⟨none, .store 2 (.t 29) (.t 27), none, []⟩] .sink)
  (.seq (.region [⟨some 30, .move (.t 8), none, []⟩,
    ⟨some 31, .bin .add (.t 30) (.c (.int .i64 1)), none, []⟩,
    ⟨some 8, .move (.t 31), none, []⟩] .seq)
  (.region [⟨some 32, .move (.t 9), none, []⟩,
    ⟨some 33, .bin .sub (.t 32) (.c (.int .i64 1)), none, []⟩,
    ⟨some 9, .move (.t 33), none, []⟩] .seq)))))))))⟩
/-- slices.partialInsertionSortCmpFunc[[2]int64] -/
def DF273 : AFunc := ⟨141, [.tmp 8], (.seq (.region [⟨some 8, .move (.c (.bool false)), none, []⟩] .seq)
  (.seq (.region [⟨some 13, .move (.t 1), none, []⟩,
    ⟨some 14, .bin .add (.t 13) (.c (.int .i64 1)), none, []⟩,
    ⟨some 9, .move (.t 14), none, []⟩] .seq)
  (.seq (.seq (.region [⟨some 10, .move (.c (.int .i64 0)), none, []⟩] .seq)
  (.block 0 (.loop (.seq (.seq (.region [⟨some 15, .move (.t 10), none, []⟩,
    ⟨some 16, .bin .lss (.t 15) (.c (.int .i64 5)), none, []⟩] .seq)
  (.cond (.t 16) .skip
  (.exit 0)))
  (.seq (.block 1 (.seq (.block 2 (.loop (.seq (.seq (.region [⟨some 19, .move (.t 9), none, []⟩,
    ⟨some 20, .move (.t 2), none, []⟩,
    ⟨some 21, .bin .lss (.t 19) (.t 20), none, []⟩,
    ⟨some 22, .move (.t 21), none, []⟩,
    ⟨some 23, .move (.t 3), some (22, true), []⟩,
    ⟨some 24, .move (.t 0), some (22, true), []⟩,
    ⟨some 25, .move (.t 9), some (22, true), []⟩,
    ⟨some 26, .indexAddrS 2 (.t 24) (.t 25), some (22, true), []⟩,
    ⟨some 27, .loadN 2 (.t 26), some (22, true), [14]⟩,
    ⟨some 28, .move (.t 0), some (22, true), []⟩,
    ⟨some 29, .move (.t 9), some (22, true), []⟩,
    ⟨some 30, .bin .sub (.t 29) (.c (.int .i64 1)), some (22, true), []⟩,
    ⟨some 31, .indexAddrS 2 (.t 28) (.t 30), some (22, true), []⟩,
    ⟨some 32, .loadN 2 (.t 31), some (22, true), [14]⟩,
    ⟨some 33, .callV (.t 23) [(.t 27), (.t 32)], some (22, true), []⟩,
    ⟨some 34, .bin .lss (.t 33) (.c (.int .i64 0)), some (22, true), []⟩,
    ⟨some 35, .un .not (.t 34), some (22, true), []⟩,
    ⟨some 36, .pick (.t 22) (.t 35) (.c (.bool false)), none, []⟩] .sink)
  (.cond (.t 36) .skip
  (.exit 2)))
  (.block 3 (.region [⟨some 37, .move (.t 9), none, []⟩,
    ⟨some 38, .bin .add (.t 37) (.c (.int .i64 1)), none, []⟩,
    ⟨some 9, .move (.t 38), none, []⟩] .seq)))))
  (.seq (.seq (.region [⟨some 39, .move (.t 9), none, []⟩,
    ⟨some 40, .move (.t 2), none, []⟩,
    ⟨some 41, .bin .eql (.t 39) (.t 40), none, []⟩] .seq)
  (.cond (.t 41) (.seq (.region [⟨some 8, .move (.c (.bool true)), none, []⟩] .seq)
  .ret)
  .skip))
  (.seq (.seq (.region [⟨some 42, .move (.t 2), none, []⟩,
    ⟨some 43, .move (.t 1), none, []⟩,
    ⟨some 44, .bin .sub (.t 42) (.t 43), none, []⟩,
    ⟨some 45, .bin .lss (.t 44) (.c (.int .i64 50)), none, []⟩] .seq)
  (.cond (.t 45) (.seq (.region [⟨some 8, .move (.c (.bool false)), none, []⟩] .seq)
  .ret)
  .skip))
  (.seq (.region [⟨some 46, .move (.t 0), none, []⟩,
    ⟨some 47, .move (.t 9), none, []⟩,
    ⟨some 48, .move (.t 0), none, []⟩,
    ⟨some 49, .move (.t 9), none, []⟩,
    ⟨some 50, .bin .sub (.t 49) (.c (.int .i64 1)), none, []⟩,
    ⟨some 51, .move (.t 0), none, []⟩,
    ⟨some 52, .move (.t 9), none, []⟩,
    ⟨some 53, .bin .sub (.t 52) (.c (.int .i64 1)), none, []⟩,
    ⟨some 54, .indexAddrS 2 (.t 51) (.t 53), none, []⟩,
    ⟨some 55, .loadN 2 (.t 54), none, [15]⟩,
    ⟨some 56, .move (.t 0), none, []⟩,
    ⟨some 57, .move (.t 9), none, []⟩,
    ⟨some 58, .indexAddrS 2 (.t 56) (.t 57), none, []⟩,
    ⟨some 59, .loadN 2 (.t 58), none, [15]⟩,
    ⟨some 60, .indexAddrS 2 (.t 46) (.t 47), none, []⟩,
    ⟨none, .store 2 (.t 60) (.t 55), none, []⟩,
    ⟨some 61, .indexAddrS 2 (.t 48) (.t 50), none, []⟩,
    ⟨none, .store 2 (.t 61) (.t 59), none, []⟩] .sink)
  (.seq (.seq (.region [⟨some 62, .move (.t 9), none, []⟩,
    ⟨some 63, .move (.t 1), none, []⟩,
    ⟨some 64, .bin .sub (.t 62) (.t 63), none, []⟩,
    ⟨some 65, .bin .geq (.t 64) (.c (.int .i64 2)), none, []⟩] .seq)
  (.cond (.t 65) (.seq (.region [⟨some 66, .move (.t 9), none, []⟩,
    ⟨some 67, .bin .sub (.t 66) (.c (.int .i64 1)), none, []⟩,
    ⟨some 11, .move (.t 67), none, []⟩] .seq)
  (.block 4 (.loop (.seq (.seq (.region [⟨some 68, .move (.t 11), none, []⟩,
    ⟨some 69, .bin .geq (.t 68) (.c (.int .i64 1)), none, []⟩] .seq)
  (.cond (.t 69) .skip
  (.exit 4)))
  (.seq (.block 5 (.seq (.seq (.region [⟨some 72, .move (.t 3), none, []⟩,
    ⟨some 73, .move (.t 0), none, []⟩,
    ⟨some 74, .move (.t 11), none, []⟩,
    ⟨some 75, .indexAddrS 2 (.t 73) (.t 74), none, []⟩,
    ⟨some 76, .loadN 2 (.t 75), none, [10]⟩,
    ⟨some 77, .move (.t 0), none, []⟩,
    ⟨some 78, .move (.t 11), none, []⟩,
    ⟨some 79, .bin .sub (.t 78) (.c (.int .i64 1)), none, []⟩,
    ⟨some 80, .indexAddrS 2 (.t 77) (.t 79), none, []⟩,
    ⟨some 81, .loadN 2 (.t 80), none, [10]⟩,
    ⟨some 82, .callV (.t 72) [(.t 76), (.t 81)], none, []⟩,
    ⟨some 83, .bin .lss (.t 82) (.c (.int .i64 0)), none, []⟩,
    ⟨some 84, .un .not (.t 83), none, []⟩] .sink)
  (.cond (.t 84) (.exit 4)
  .skip))
  (.region [⟨some 85, .move (.t 0), none, []⟩,
    ⟨some 86, .move (.t 11), none, []⟩,
    ⟨some 87, .move (.t 0), none, []⟩,
    ⟨some 88, .move (.t 11), none, []⟩,
    ⟨some 89, .bin .sub (.t 88) (.c (.int .i64 1)), none, []⟩,
    ⟨some 90, .move (.t 0), none, []⟩,
    ⟨some 91, .move (.t 11), none, []⟩,
    ⟨some 92, .bin .sub (.t 91) (.c (.int .i64 1)), none, []⟩,
    ⟨some 93, .indexAddrS 2 (.t 90) (.t 92), none, []⟩,
    ⟨some 94, .loadN 2 (.t 93), none, [15]⟩,
    ⟨some 95, .move (.t 0), none, []⟩,
    ⟨some 96, .move (.t 11), none, []⟩,
    ⟨some 97, .indexAddrS 2 (.t 95) (.t 96), none, []⟩,
    ⟨some 98, .loadN 2 (.t 97), none, [15]⟩,
    ⟨some 99, .indexAddrS 2 (.t 85) (.t 86), none, []⟩,
    ⟨none, .store 2 (.t 99) (.t 94), none, []⟩,
    ⟨some 100, .indexAddrS 2 (.t 87) (.t 89), none, []⟩,
    ⟨none, .store 2 (.t 100) (.t 98), none, []⟩] .sink)))
  (.region [⟨some 70, .move (.t 11), none, []⟩,
    ⟨some 71, .bin .sub (.t 70) (.c (.int .i64 1)), none, []⟩,
    ⟨some 11, .move (.t 71), none, []⟩] .seq))))))
  .skip))
  (.seq (.region [⟨some 101, .move (.t 2), none, []⟩,
    ⟨some 102, .move (.t 9), none, []⟩,
    ⟨some 103, .bin .sub (.t 101) (.t 102), none, []⟩,
    ⟨some 104, .bin .geq (.t 103) (.c (.int .i64 2)), none, []⟩] .seq)
  (.cond (.t 104) (.seq (.region [⟨some 105, .move (.t 9), none, []⟩,
    ⟨some 106, .bin .add (.t 105) (.c (.int .i64 1)), none, []⟩,
    ⟨some 12, .move (.t 106), none, []⟩] .seq)
  (.block 6 (.loop (.seq (.seq (.region [⟨some 107, .move (.t 12), none, []⟩,
    ⟨some 108, .move (.t 2), none, []⟩,
    ⟨some 109, .bin .lss (.t 107) (.t 108), none, []⟩] .seq)
  (.cond (.t 109) .skip
  (.exit 6)))
  (.seq (.block 7 (.seq (.seq (.region [⟨some 112, .move (.t 3), none, []⟩,
    ⟨some 113, .move (.t 0), none, []⟩,
    ⟨some 114, .move (.t 12), none, []⟩,
    ⟨some 115, .indexAddrS 2 (.t 113) (.t 114), none, []⟩,
    ⟨some 116, .loadN 2 (.t 115), none, [10]⟩,
    ⟨some 117, .move (.t 0), none, []⟩,
    ⟨some 118, .move (.t 12), none, []⟩,
    ⟨some 119, .bin .sub (.t 118) (.c (.int .i64 1)), none, []⟩,
    ⟨some 120, .indexAddrS 2 (.t 117) (.t 119), none, []⟩,
    ⟨some 121, .loadN 2 (.t 120), none, [10]⟩,
    ⟨some 122, .callV (.t 112) [(.t 116), (.t 121)], none, []⟩,
    ⟨some 123, .bin .lss (.t 122) (.c (.int .i64 0)), none, []⟩,
    ⟨some 124, .un .not (.t 123), none, []⟩] .sink)
  (.cond (.t 124) (.exit 6)
  .skip))
  (.region [⟨some 125, .move (.t 0), none, []⟩,
    ⟨some 126, .move (.t 12), none, []⟩,
    ⟨some 127, .move (.t 0), none, []⟩,
    ⟨some 128, .move (.t 12), none, []⟩,
    ⟨some 129, .bin .sub (.t 128) (.c (.int .i64 1)), none, []⟩,
    ⟨some 130, .move (.t 0), none, []⟩,
    ⟨some 131, .move (.t 12), none, []⟩,
    ⟨some 132, .bin .sub (.t 131) (.c (.int .i64 1)), none, []⟩,
    ⟨some 133, .indexAddrS 2 (.t 130) (.t 132), none, []⟩,
    ⟨some 134, .loadN 2 (.t 133), none, [15]⟩,
    ⟨some 135, .move (.t 0), none, []⟩,
    ⟨some 136, .move (.t 12), none, []⟩,
    ⟨some 137, .indexAddrS 2 (.t 135) (.t 136), none, []⟩,
    ⟨some 138, .loadN 2 (.t 137), none, [15]⟩,
    ⟨some 139, .indexAddrS 2 (.t 125) (.t 126), none, []⟩,
    ⟨none, .store 2 (.t 139) (.t 134), none, []⟩,
    ⟨some 140, .indexAddrS 2 (.t 127) (.t 129), none, []⟩,
    ⟨none, .store 2 (.t 140) (.t 138), none, []⟩] .sink)))
  (.region [⟨some 110, .move (.t 12), none, []⟩,
    ⟨some 111, .bin .add (.t 110) (.c (.int .i64 1)), none, []⟩,
    ⟨some 12, .move (.t 111), none, []⟩] .seq))))))
  .skip))))))))
  (.region [⟨some 17, .move (.t 10), none, []⟩,
    ⟨some 18, .bin .add (.t 17) (.c (.int .i64 1)), none, []⟩,
    ⟨some 10, .move (.t 18), none, []⟩] .seq))))))
  (.seq (.region [⟨some 8, .move (.c (.bool false)), none, []⟩] .seq)
  .ret))))⟩
/-- slices.partitionEqualCmpFunc[[2]int64] -/
def DF274 : AFunc := ⟨90, [.tmp 10], (.seq (.region [⟨some 10, .move (.c (.int .i64 0)), none, []⟩] .seq)
  (.seq (.region [⟨some 13, .move (.t 0), none, []⟩,
    ⟨some 14, .move (.t 1), none, []⟩,
    ⟨some 15, .move (.t 0), none, []⟩,
    ⟨some 16, .move (.t 3), none, []⟩,
    ⟨some 17, .move (.t 0), none, []⟩,
    ⟨some 18, .move (.t 3), none, []⟩,
    ⟨some 19, .indexAddrS 2 (.t 17) (.t 18), none, []⟩,
    ⟨some 20, .loadN 2 (.t 19), none, [13]⟩,
    ⟨some 21, .move (.t 0), none, []⟩,
    ⟨some 22, .move (.t 1), none, []⟩,
    ⟨some 23, .indexAddrS 2 (.t 21) (.t 22), none, []⟩,
    ⟨some 24, .loadN 2 (.t 23), none, [13]⟩,
    ⟨some 25, .indexAddrS 2 (.t 13) (.t 14), none, []⟩,
    ⟨none, .store 2 (.t 25) (.t 20), none, []⟩,
    ⟨some 26, .indexAddrS 2 (.t 15) (.t 16), none, []⟩,
    ⟨none, .store 2 (.t 26) (.t 24), none, []⟩] .sink)
  (.seq (.region [⟨some 27, .move (.t 1), none, []⟩,
    ⟨some 28, .bin .add (.t 27) (.c (.int .i64 1)), none, []⟩,
    ⟨some 29, .move (.t 2), none, []⟩,
    ⟨some 30, .bin .sub (.t 29) (.c (.int .i64 1)), none, []⟩,
    ⟨some 11, .move (.t 28), none, []⟩,
    ⟨some 12, .move (.t 30), none, []⟩] .seq)
  (.seq (.block 0 (.loop (.block 1 (.seq (.block 2 (.loop (.seq (.seq (.region [⟨some 31, .move (.t 11), none, []⟩,
    ⟨some 32, .move (.t 12), none, []⟩,
    ⟨some 33, .bin .leq (.t 31) (.t 32), none, []⟩,
    ⟨some 34, .move (.t 33), none, []⟩,
    ⟨some 35, .move (.t 4), some (34, true), []⟩,
    ⟨some 36, .move (.t 0), some (34, true), []⟩,
    ⟨some 37, .move (.t 1), some (34, true), []⟩,
    ⟨some 38, .indexAddrS 2 (.t 36) (.t 37), some (34, true), []⟩,
    ⟨some 39, .loadN 2 (.t 38), some (34, true), [13]⟩,
    ⟨some 40, .move (.t 0), some (34, true), []⟩,
    ⟨some 41, .move (.t 11), some (34, true), []⟩,
    ⟨some 42, .indexAddrS 2 (.t 40) (.t 41), some (34, true), []⟩,
    ⟨some 43, .loadN 2 (.t 42), some (34, true), [13]⟩,
    ⟨some 44, .callV (.t 35) [(.t 39), (.t 43)], some (34, true), []⟩,
    ⟨some 45, .bin .lss (.t 44) (.c (.int .i64 0)), some (34, true), []⟩,
    ⟨some 46, .un .not (.t 45), some (34, true), []⟩,
    ⟨some 47, .pick (.t 34) (.t 46) (.c (.bool false)), none, []⟩] .sink)
  (.cond (.t 47) .skip
  (.exit 2)))
  (.block 3 (.region [⟨some 48, .move (.t 11), none, []⟩,
    ⟨some 49, .bin .add (.t 48) (.c (.int .i64 1)), none, []⟩,
    ⟨some 11, .move (.t 49), none, []⟩] .seq)))))
  (.seq (.block 4 (.loop (.seq (.seq (.region [⟨some 50, .move (.t 11), none, []⟩,
    ⟨some 51, .move (.t 12), none, []⟩,
    ⟨some 52, .bin .leq (.t 50) (.t 51), none, []⟩,
    ⟨some 53, .move (.t 52), none, []⟩,
    ⟨some 54, .move (.t 4), some (53, true), []⟩,
    ⟨some 55, .move (.t 0), some (53, true), []⟩,
    ⟨some 56, .move (.t 1), some (53, true), []⟩,
    ⟨some 57, .indexAddrS 2 (.t 55) (.t 56), some (53, true), []⟩,
    ⟨some 58, .loadN 2 (.t 57), some (53, true), [13]⟩,
    ⟨some 59, .move (.t 0), some (53, true), []⟩,
    ⟨some 60, .move (.t 12), some (53, true), []⟩,
    ⟨some 61, .indexAddrS 2 (.t 59) (.t 60), some (53, true), []⟩,
    ⟨some 62, .loadN 2 (.t 61), some (53, true), [13]⟩,
    ⟨some 63, .callV (.t 54) [(.t 58), (.t 62)], some (53, true), []⟩,
    ⟨some 64, .bin .lss (.t 63) (.c (.int .i64 0)), some (53, true), []⟩,
    ⟨some 65, .pick (.t 53) (.t 64) (.c (.bool false)), none, []⟩] .sink)
  (.cond (.t 65) .skip
  (.exit 4)))
  (.block 5 (.region [⟨some 66, .move (.t 12), none, []⟩,
    ⟨some 67, .bin .sub (.t 66) (.c (.int .i64 1)), none, []⟩,
    ⟨some 12, .move (.t 67), none, []⟩] .seq)))))
  (.seq (.seq (.region [⟨some 68, .move (.t 11), none, []⟩,
    ⟨some 69, .move (.t 12), none, []⟩,
    ⟨some 70, .bin .gtr (.t 68) (.t 69), none, []⟩] .seq)
  (.cond (.t 70) (.exit 0)
  .skip))
  (.seq (.region [⟨some 71, .move (.t 0), none, []⟩,
    ⟨some 72, .move (.t 11), none, []⟩,
    ⟨some 73, .move (.t 0), none, []⟩,
    ⟨some 74, .move (.t 12), none, []⟩,
    ⟨some 75, .move (.t 0), none, []⟩,
    ⟨some 76, .move (.t 12), none, []⟩,
    ⟨some 77, .indexAddrS 2 (.t 75) (.t 76), none, []⟩,
    ⟨some 78, .loadN 2 (.t 77), none, [13]⟩,
    ⟨some 79, .move (.t 0), none, []⟩,
    ⟨some 80, .move (.t 11), none, []⟩,
    ⟨some 81, .indexAddrS 2 (.t 79) (.t 80), none, []⟩,
    ⟨some 82, .loadN 2 (.t 81), none, [13]⟩,
    ⟨some 83, .indexAddrS 2 (.t 71) (.t 72), none, []⟩,
    ⟨none, .store 2 (.t 83) (.t 78), none, []⟩,
    ⟨some 84, .indexAddrS 2 (.t 73) (.t 74), none, []⟩,
    ⟨none, .store 2 (.t 84) (.t 82), none, []⟩] .sink)
  (.seq (.region [⟨some 85, .move (.t 11), none, []⟩,
    ⟨some 86, .bin .add (.t 85) (.c (.int .i64 1)), none, []⟩,
    ⟨some 11, .move (.t 86), none, []⟩] .seq)
  (.region [⟨some 87, .move (.t 12), none, []⟩,
    ⟨some 88, .bin .sub (.t 87) (.c (.int .i64 1)), none, []⟩,
    ⟨some 12, .move (.t 88), none, []⟩] .seq)))))))))
  (.seq (.region [⟨some 89, .move (.t 11), none, []⟩,
    ⟨some 10, .move (.t 89), none, []⟩] .seq)
  .ret)))))⟩
/-- slices.partitionCmpFunc[[2]int64] -/
def DF275 : AFunc := ⟨178, [.tmp 10, .tmp 11], (.seq (.region [⟨some 10, .move (.c (.int .i64 0)), none, []⟩,
    ⟨some 11, .move (.c (.bool false)), none, []⟩] .seq)
  (.seq (.region [⟨some 14, .move (.t 0), none, []⟩,
    ⟨some 15, .move (.t 1), none, []⟩,
    ⟨some 16, .move (.t 0), none, []⟩,
    ⟨some 17, .move (.t 3), none, []⟩,
    ⟨some 18, .move (.t 0), none, []⟩,
    ⟨some 19, .move (.t 3), none, []⟩,
    ⟨some 20, .indexAddrS 2 (.t 18) (.t 19), none, []⟩,
    ⟨some 21, .loadN 2 (.t 20), none, [13]⟩,
    ⟨some 22, .move (.t 0), none, []⟩,
    ⟨some 23, .move (.t 1), none, []⟩,
    ⟨some 24, .indexAddrS 2 (.t 22) (.t 23), none, []⟩,
    ⟨some 25, .loadN 2 (.t 24), none, [13]⟩,
    ⟨some 26, .indexAddrS 2 (.t 14) (.t 15), none, []⟩,
    ⟨none, .store 2 (.t 26) (.t 21), none, []⟩,
    ⟨some 27, .indexAddrS 2 (.t 16) (.t 17), none, []⟩,
    ⟨none, .store 2 (.t 27) (.t 25), none, []⟩] .sink)
  (.seq (.region [⟨some 28, .move (.t 1), none, []⟩,
    ⟨some 29, .bin .add (.t 28) (.c (.int .i64 1)), none, []⟩,
    ⟨some 30, .move (.t 2), none, []⟩,
    ⟨some 31, .bin .sub (.t 30) (.c (.int .i64 1)), none, []⟩,
    ⟨some 12, .move (.t 29), none, []⟩,
    ⟨some 13, .move (.t 31), none, []⟩] .seq)
  (.seq (.block 0 (.loop (.seq (.seq (.region [⟨some 32, .move (.t 12), none, []⟩,
    ⟨some 33, .move (.t 13), none, []⟩,
    ⟨some 34, .bin .leq (.t 32) (.t 33), none, []⟩,
    ⟨some 35, .move (.t 34), none, []⟩,
    ⟨some 36, .move (.t 4), some (35, true), []⟩,
    ⟨some 37, .move (.t 0), some (35, true), []⟩,
    ⟨some 38, .move (.t 12), some (35, true), []⟩,
    ⟨some 39, .indexAddrS 2 (.t 37) (.t 38), some (35, true), []⟩,
    ⟨some 40, .loadN 2 (.t 39), some (35, true), [13]⟩,
    ⟨some 41, .move (.t 0), some (35, true), []⟩,
    ⟨some 42, .move (.t 1), some (35, true), []⟩,
    ⟨some 43, .indexAddrS 2 (.t 41) (.t 42), some (35, true), []⟩,
    ⟨some 44, .loadN 2 (.t 43), some (35, true), [13]⟩,
    ⟨some 45, .callV (.t 36) [(.t 40), (.t 44)], some (35, true), []⟩,
    ⟨some 46, .bin .lss (.t 45) (.c (.int .i64 0)), some (35, true), []⟩,
    ⟨some 47, .pick (.t 35) (.t 46) (.c (.bool false)), none, []⟩] .sink)
  (.cond (.t 47) .skip
  (.exit 0)))
  (.block 1 (.region [⟨some 48, .move (.t 12), none, []⟩,
    ⟨some 49, .bin .add (.t 48) (.c (.int .i64 1)), none, []⟩,
    ⟨some 12, .move (.t 49), none, []⟩] .seq)))))
  (.seq (.block 2 (.loop (.seq (.seq (.region [⟨some 50, .move (.t 12), none, []⟩,
    ⟨some 51, .move (.t 13), none, []⟩,
    ⟨some 52, .bin .leq (.t 50) (.t 51), none, []⟩,
    ⟨some 53, .move (.t 52), none, []⟩,
    ⟨some 54, .move (.t 4), some (53, true), []⟩,
    ⟨some 55, .move (.t 0), some (53, true), []⟩,
    ⟨some 56, .move (.t 13), some (53, true), []⟩,
    ⟨some 57, .indexAddrS 2 (.t 55) (.t 56), some (53, true), []⟩,
    ⟨some 58, .loadN 2 (.t 57), some (53, true), [13]⟩,
    ⟨some 59, .move (.t 0), some (53, true), []⟩,
    ⟨some 60, .move (.t 1), some (53, true), []⟩,
    ⟨some 61, .indexAddrS 2 (.t 59) (.t 60), some (53, true), []⟩,
    ⟨some 62, .loadN 2 (.t 61), some (53, true), [13]⟩,
    ⟨some 63, .callV (.t 54) [(.t 58), (.t 62)], some (53, true), []⟩,
    ⟨some 64, .bin .lss (.t 63) (.c (.int .i64 0)), some (53, true), []⟩,
    ⟨some 65, .un .not (.t 64), some (53, true), []⟩,
    ⟨some 66, .pick (.t 53) (.t 65) (.c (.bool false)), none, []⟩] .sink)
  (.cond (.t 66) .skip
  (.exit 2)))
  (.block 3 (.region [⟨some 67, .move (.t 13), none, []⟩,
    ⟨some 68, .bin .sub (.t 67) (.c (.int .i64 1)), none, []⟩,
    ⟨some 13, .move (.t 68), none, []⟩] .seq)))))
  (.seq (.seq (.region [⟨some 69, .move (.t 12), none, []⟩,
    ⟨some 70, .move (.t 13), none, []⟩,
    ⟨some 71, .bin .gtr (.t 69) (.t 70), none, []⟩] .seq)
  (.cond (.t 71) (.seq (.region [⟨some 72, .move (.t 0), none, []⟩,
    ⟨some 73, .move (.t 13), none, []⟩,
    ⟨some 74, .move (.t 0), none, []⟩,
    ⟨some 75, .move (.t 1), none, []⟩,
    ⟨some 76, .move (.t 0), none, []⟩,
    ⟨some 77, .move (.t 1), none, []⟩,
    ⟨some 78, .indexAddrS 2 (.t 76) (.t 77), none, []⟩,
    ⟨some 79, .loadN 2 (.t 78), none, [13]⟩,
    ⟨some 80, .move (.t 0), none, []⟩,
    ⟨some 81, .move (.t 13), none, []⟩,
    ⟨some 82, .indexAddrS 2 (.t 80) (.t 81), none, []⟩,
    ⟨some 83, .loadN 2 (.t 82), none, [13]⟩,
    ⟨some 84, .indexAddrS 2 (.t 72) (.t 73), none, []⟩,
    ⟨none, .store 2 (.t 84) (.t 79), none, []⟩,
    ⟨some 85, .indexAddrS 2 (.t 74) (.t 75), none, []⟩,
    ⟨none, .store 2 (.t 85) (.t 83), none, []⟩] .sink)
  (.seq (.region [⟨some 86, .move (.t 13), none, []⟩,
    ⟨some 10, .move (.t 86), none, []⟩,
    ⟨some 11, .move (.c (.bool true)), none, []⟩] .seq)
  .ret))
  .skip))
  (.seq (.region [⟨some 87, .move (.t 0), none, []⟩,
    ⟨some 88, .move (.t 12), none, []⟩,
    ⟨some 89, .move (.t 0), none, []⟩,
    ⟨some 90, .move (.t 13), none, []⟩,
    ⟨some 91, .move (.t 0), none, []⟩,
    ⟨some 92, .move (.t 13), none, []⟩,
    ⟨some 93, .indexAddrS 2 (.t 91) (.t 92), none, []⟩,
    ⟨some 94, .loadN 2 (.t 93), none, [13]⟩,
    ⟨some 95, .move (.t 0), none, []⟩,
    ⟨some 96, .move (.t 12), none, []⟩,
    ⟨some 97, .indexAddrS 2 (.t 95) (.t 96), none, []⟩,
    ⟨some 98, .loadN 2 (.t 97), none, [13]⟩,
    ⟨some 99, .indexAddrS 2 (.t 87) (.t 88), none, []⟩,
    ⟨none, .store 2 (.t 99) (.t 94), none, []⟩,
    ⟨some 100, .indexAddrS 2 (.t 89) (.t 90), none, []⟩,
    ⟨none, .store 2 (.t 100) (.t 98), none, []⟩] .sink)
  (.seq (.region [⟨some 101, .move (.t 12), none, []⟩,
    ⟨some 102, .bin .add (.t 101) (.c (.int .i64 1)), none, []⟩,
    ⟨some 12, .move (.t 102), none, []⟩] .seq)
  (.seq (.region [⟨some 103, .move (.t 13), none, []⟩,
    ⟨some 104, .bin .sub (.t 103) (.c (.int .i64 1)), none, []⟩,
    ⟨some 13, .move (.t 104), none, []⟩] .seq)
  (.seq (.block 4 (.loop (.block 5 (.seq (.block 6 (.loop (.seq (.seq (.region [⟨some 105, .move (.t 12), none, []⟩,
    ⟨some 106, .move (.t 13), none, []⟩,
    ⟨some 107, .bin .leq (.t 105) (.t 106), none, []⟩,
    ⟨some 108, .move (.t 107), none, []⟩,
    ⟨some 109, .move (.t 4), some (108, true), []⟩,
    ⟨some 110, .move (.t 0), some (108, true), []⟩,
    ⟨some 111, .move (.t 12), some (108, true), []⟩,
    ⟨some 112, .indexAddrS 2 (.t 110) (.t 111), some (108, true), []⟩,
    ⟨some 113, .loadN 2 (.t 112), some (108, true), [13]⟩,
    ⟨some 114, .move (.t 0), some (108, true), []⟩,
    ⟨some 115, .move (.t 1), some (108, true), []⟩,
    ⟨some 116, .indexAddrS 2 (.t 114) (.t 115), some (108, true), []⟩,
    ⟨some 117, .loadN 2 (.t 116), some (108, true), [13]⟩,
    ⟨some 118, .callV (.t 109) [(.t 113), (.t 117)], some (108, true), []⟩,
    ⟨some 119, .bin .lss (.t 118) (.c (.int .i64 0)), some (108, true), []⟩,
    ⟨some 120, .pick (.t 108) (.t 119) (.c (.bool false)), none, []⟩] .sink)
  (.cond (.t 120) .skip
  (.exit 6)))
  (.block 7 (.region [⟨some 121, .move (.t 12), none, []⟩,
    ⟨some 122, .bin .add (.t 121) (.c (.int .i64 1)), none, []⟩,
    ⟨some 12, .move (.t 122), none, []⟩] .seq)))))
  (.seq (.block 8 (.loop (.seq (.seq (.region [⟨some 123, .move (.t 12), none, []⟩,
    ⟨some 124, .move (.t 13), none, []⟩,
    ⟨some 125, .bin .leq (.t 123) (.t 124), none, []⟩,
    ⟨some 126, .move (.t 125), none, []⟩,
    ⟨some 127, .move (.t 4), some (126, true), []⟩,
    ⟨some 128, .move (.t 0), some (126, true), []⟩,
    ⟨some 129, .move (.t 13), some (126, true), []⟩,
    ⟨some 130, .indexAddrS 2 (.t 128) (.t 129), some (126, true), []⟩,
    ⟨some 131, .loadN 2 (.t 130), some (126, true), [13]⟩,
    ⟨some 132, .move (.t 0), some (126, true), []⟩,
    ⟨some 133, .move (.t 1), some (126, true), []⟩,
    ⟨some 134, .indexAddrS 2 (.t 132) (.t 133), some (126, true), []⟩,
    ⟨some 135, .loadN 2 (.t 134), some (126, true), [13]⟩,
    ⟨some 136, .callV (.t 127) [(.t 131), (.t 135)], some (126, true), []⟩,
    ⟨some 137, .bin .lss (.t 136) (.c (.int .i64 0)), some (126, true), []⟩,
    ⟨some 138, .un .not (.t 137), some (126, true), []⟩,
    ⟨some 139, .pick (.t 126) (.t 138) (.c (.bool false)), none, []⟩] .sink)
  (.cond (.t 139) .skip
  (.exit 8)))
  (.block 9 (.region [⟨some 140, .move (.t 13), none, []⟩,
    ⟨some 141, .bin .sub (.t 140) (.c (.int .i64 1)), none, []⟩,
    ⟨some 13, .move (.t 141), none, []⟩] .seq)))))
  (.seq (.seq (.region [⟨some 142, .move (.t 12), none, []⟩,
    ⟨some 143, .move (.t 13), none, []⟩,
    ⟨some 144, .bin .gtr (.t 142) (.t 143), none, []⟩] .seq)
  (.cond (.t 144) (.exit 4)
  .skip))
  (.seq (.region [⟨some 145, .move (.t 0), none, []⟩,
    ⟨some 146, .move (.t 12), none, []⟩,
    ⟨some 147, .move (.t 0), none, []⟩,
    ⟨some 148, .move (.t 13), none, []⟩,
    ⟨some 149, .move (.t 0), none, []⟩,
    ⟨some 150, .move (.t 13), none, []⟩,
    ⟨some 151, .indexAddrS 2 (.t 149) (.t 150), none, []⟩,
    ⟨some 152, .loadN 2 (.t 151), none, [13]⟩,
    ⟨some 153, .move (.t 0), none, []⟩,
    ⟨some 154, .move (.t 12), none, []⟩,
    ⟨some 155, .indexAddrS 2 (.t 153) (.t 154), none, []⟩,
    ⟨some 156, .loadN 2 (.t 155), none, [13]⟩,
    ⟨some 157, .indexAddrS 2 (.t 145) (.t 146), none, []⟩,
    ⟨none, .store 2 (.t 157) (.t 152), none, []⟩,
    ⟨some 158, .indexAddrS 2 (.t 147) (.t 148), none, []⟩,
    ⟨none, .store 2 (.t 158) (.t 156), none, []⟩] .sink)
  (.seq (.region [⟨some 159, .move (.t 12), none, []⟩,
    ⟨some 160, .bin .add (.t 159) (.c (.int .i64 1)), none, []⟩,
    ⟨some 12, .move (.t 160), none, []⟩] .seq)
  (.region [⟨some 161, .move (.t 13), none, []⟩,
    ⟨some 162, .bin .sub (.t 161) (.c (.int .i64 1)), none, []⟩,
    ⟨some 13, .move (.t 162), none, []⟩] .seq)))))))))
  (.seq (.region [⟨some 163, .move (.t 0), none, []⟩,
    ⟨some 164, .move (.t 13), none, []⟩,
    ⟨some 165, .move (.t 0), none, []⟩,
    ⟨some 166, .move (.t 1), none, []⟩,
    ⟨some 167, .move (.t 0), none, []⟩,
    ⟨some 168, .move (.t 1), none, []⟩,
    ⟨some 169, .indexAddrS 2 (.t 167) (.t 168), none, []⟩,
    ⟨some 170, .loadN 2 (.t 169), none, [13]⟩,
    ⟨some 171, .move (.t 0), none, []⟩,
    ⟨some 172, .move (.t 13), none, []⟩,
    ⟨some 173, .indexAddrS 2 (.t 171) (.t 172), none, []⟩,
    ⟨some 174, .loadN 2 (.t 173), none, [13]⟩,
    ⟨some 175, .indexAddrS 2 (.t 163) (.t 164), none, []⟩,
    ⟨none, .store 2 (.t 175) (.t 170), none, []⟩,
    ⟨some 176, .indexAddrS 2 (.t 165) (.t 166), none, []⟩,
    ⟨none, .store 2 (.t 176) (.t 174), none, []⟩] .sink)
  (.seq (.region [⟨some 177, .move (.t 13), none, []⟩,
    ⟨some 10, .move (.t 177), none, []⟩,
    ⟨some 11, .move (.c (.bool false)), none, []⟩] .seq)
  .ret))))))))))))⟩
/-- slices.siftDownCmpFunc[[2]int64] -/
def DF276 : AFunc := ⟨82, [], (.seq (.region [⟨some 12, .move (.t 1), none, []⟩,
    ⟨some 10, .move (.t 12), none, []⟩] .seq)
  (.block 0 (.loop (.block 1 (.seq (.region [⟨some 13, .move (.t 10), none, []⟩,
    ⟨some 14, .bin .mul (.c (.int .i64 2)) (.t 13), none, []⟩,
    ⟨some 15, .bin .add (.t 14) (.c (.int .i64 1)), none, []⟩,
    ⟨some 11, .move (.t 15), none, []⟩] .seq)
  (.seq (.seq (.region [⟨some 16, .move (.t 11), none, []⟩,
    ⟨some 17, .move (.t 2), none, []⟩,
    ⟨some 18, .bin .geq (.t 16) (.t 17), none, []⟩] .seq)
  (.cond (.t 18) (.exit 0)
  .skip))
  (.seq (.seq (.region [⟨some 19, .move (.t 11), none, []⟩,
    ⟨some 20, .bin .add (.t 19) (.c (.int .i64 1)), none, []⟩,
    ⟨some 21, .move (.t 2), none, []⟩,
    ⟨some 22, .bin .lss (.t 20) (.t 21), none, []⟩,
    ⟨some 23, .move (.t 22), none, []⟩,
    ⟨some 24, .move (.t 4), some (23, true), []⟩,
    ⟨some 25, .move (.t 0), some (23, true), []⟩,
    ⟨some 26, .move (.t 3), some (23, true), []⟩,
    ⟨some 27, .move (.t 11), some (23, true), []⟩,
    ⟨some 28, .bin .add (.t 26) (.t 27), some (23, true), []⟩,
    ⟨some 29, .indexAddrS 2 (.t 25) (.t 28), some (23, true), []⟩,
    ⟨some 30, .loadN 2 (.t 29), some (23, true), [19]⟩,
    ⟨some 31, .move (.t 0), some (23, true), []⟩,
    ⟨some 32, .move (.t 3), some (23, true), []⟩,
    ⟨some 33, .move (.t 11), some (23, true), []⟩,
    ⟨some 34, .bin .add (.t 32) (.t 33), some (23, true), []⟩,
    ⟨some 35, .bin .add (.t 34) (.c (.int .i64 1)), some (23, true), []⟩,
    ⟨some 36, .indexAddrS 2 (.t 31) (.t 35), some (23, true), []⟩,
    ⟨some 37, .loadN 2 (.t 36), some (23, true), [19]⟩,
    ⟨some 38, .callV (.t 24) [(.t 30), (.t 37)], some (23, true), []⟩,
    ⟨some 39, .bin .lss (.t 38) (.c (.int .i64 0)), some (23, true), []⟩,
    ⟨some 40, .pick (.t 23) (.t 39) (.c (.bool false)), none, []⟩] .sink)
  (.cond (.t 40) (.region [⟨some 41, .move (.t 11), none, []⟩,
    ⟨some 42, .bin .add (.t 41) (.c (.int .i64 1)), none, []⟩,
    ⟨some 11, .move (.t 42), none, []⟩] .seq)
  .skip))
  (.seq (.seq (.region [⟨some 43, .move (.t 4), none, []⟩,
    ⟨some 44, .move (.t 0), none, []⟩,
    ⟨some 45, .move (.t 3), none, []⟩,
    ⟨some 46, .move (.t 10), none, []⟩,
    ⟨some 47, .bin .add (.t 45) (.t 46), none, []⟩,
    ⟨some 48, .indexAddrS 2 (.t 44) (.t 47), none, []⟩,
    ⟨some 49, .loadN 2 (.t 48), none, [13]⟩,
    ⟨some 50, .move (.t 0), none, []⟩,
    ⟨some 51, .move (.t 3), none, []⟩,
    ⟨some 52, .move (.t 11), none, []⟩,
    ⟨some 53, .bin .add (.t 51) (.t 52), none, []⟩,
    ⟨some 54, .indexAddrS 2 (.t 50) (.t 53), none, []⟩,
    ⟨some 55, .loadN 2 (.t 54), none, [13]⟩,
    ⟨some 56, .callV (.t 43) [(.t 49), (.t 55)], none, []⟩,
    ⟨some 57, .bin .lss (.t 56) (.c (.int .i64 0)), none, []⟩,
    ⟨some 58, .un .not (.t 57), none, []⟩] .sink)
  (.cond (.t 58) .ret
  .skip))
  (.seq (.region [⟨some 59, .move (.t 0), none, []⟩,
    ⟨some 60, .move (.t 3), none, []⟩,
    ⟨some 61, .move (.t 10), none, []⟩,
    ⟨some 62, .bin .add (.t 60) (.t 61), none, []⟩,
    ⟨some 63, .move (.t 0), none, []⟩,
    ⟨some 64, .move (.t 3), none, []⟩,
    ⟨some 65, .move (.t 11), none, []⟩,
    ⟨some 66, .bin .add (.t 64) (.t 65), none, []⟩,
    ⟨some 67, .move (.t 0), none, []⟩,
    ⟨some 68, .move (.t 3), none, []⟩,
    ⟨some 69, .move (.t 11), none, []⟩,
    ⟨some 70, .bin .add (.t 68) (.t 69), none, []⟩,
    ⟨some 71, .indexAddrS 2 (.t 67) (.t 70), none, []⟩,
    ⟨some 72, .loadN 2 (.t 71), none, [21]⟩,
    ⟨some 73, .move (.t 0), none, []⟩,
    ⟨some 74, .move (.t 3), none, []⟩,
    ⟨some 75, .move (.t 10), none, []⟩,
    ⟨some 76, .bin .add (.t 74) (.t 75), none, []⟩,
    ⟨some 77, .indexAddrS 2 (.t 73) (.t 76), none, []⟩,
    ⟨some 78, .loadN 2 (.t 77), none, [21]⟩,
    ⟨some 79, .indexAddrS 2 (.t 59) (.t 62), none, []⟩,
    ⟨none, .store 2 (.t 79) (.t 72), none, []⟩,
    ⟨some 80, .indexAddrS 2 (.t 63) (.t 66), none, []⟩,
    ⟨none, .store 2 (.t 80) (.t 78), none, []⟩] .sink)
  (.region [⟨some 81, .move (.t 11), none, []⟩,
    ⟨some 10, .move (.t 81), none, []⟩] .seq))))))))))⟩
/-- slices.medianAdjacentCmpFunc[[2]int64] -/
def DF277 : AFunc := ⟨18, [.tmp 8], (.seq (.region [⟨some 8, .move (.c (.int .i64 0)), none, []⟩] .seq)
  (.seq (.region [⟨some 9, .move (.t 0), none, []⟩,
    ⟨some 10, .move (.t 1), none, []⟩,
    ⟨some 11, .bin .sub (.t 10) (.c (.int .i64 1)), none, []⟩,
    ⟨some 12, .move (.t 1), none, []⟩,
    ⟨some 13, .move (.t 1), none, []⟩,
    ⟨some 14, .bin .add (.t 13) (.c (.int .i64 1)), none, []⟩,
    ⟨some 15, .move (.t 2), none, []⟩,
    ⟨some 16, .move (.t 3), none, []⟩,
    ⟨some 17, .callF 278 [(.t 9), (.t 11), (.t 12), (.t 14), (.t 15), (.t 16)], none, []⟩,
    ⟨some 8, .move (.t 17), none, []⟩] .seq)
  .ret))⟩
/-- slices.medianCmpFunc[[2]int64] -/
def DF278 : AFunc := ⟨41, [.tmp 12], (.seq (.region [⟨some 12, .move (.c (.int .i64 0)), none, []⟩] .seq)
  (.seq (.region [⟨some 14, .move (.t 0), none, []⟩,
    ⟨some 15, .move (.t 1), none, []⟩,
    ⟨some 16, .move (.t 2), none, []⟩,
    ⟨some 17, .move (.t 4), none, []⟩,
    ⟨some 18, .move (.t 5), none, []⟩,
    ⟨some 19, .callF 279 [(.t 14), (.t 15), (.t 16), (.t 17), (.t 18)], none, []⟩,
    ⟨some 13, .move (.t 19), none, []⟩,
    ⟨some 20, .extract (.t 13) 0, none, []⟩,
    ⟨some 21, .extract (.t 13) 1, none, []⟩,
    ⟨some 1, .move (.t 20), none, []⟩,
    ⟨some 2, .move (.t 21), none, []⟩] .seq)
  (.seq (.region [⟨some 23, .move (.t 0), none, []⟩,
    ⟨some 24, .move (.t 2), none, []⟩,
    ⟨some 25, .move (.t 3), none, []⟩,
    ⟨some 26, .move (.t 4), none, []⟩,
    ⟨some 27, .move (.t 5), none, []⟩,
    ⟨some 28, .callF 279 [(.t 23), (.t 24), (.t 25), (.t 26), (.t 27)], none, []⟩,
    ⟨some 22, .move (.t 28), none, []⟩,
    ⟨some 29, .extract (.t 22) 0, none, []⟩,
    ⟨some 30, .extract (.t 22) 1, none, []⟩,
    ⟨some 2, .move (.t 29), none, []⟩,
    ⟨some 3, .move (.t 30), none, []⟩] .seq)
  (.seq (.region [⟨some 32, .move (.t 0), none, []⟩,
    ⟨some 33, .move (.t 1), none, []⟩,
    ⟨some 34, .move (.t 2), none, []⟩,
    ⟨some 35, .move (.t 4), none, []⟩,
    ⟨some 36, .move (.t 5), none, []⟩,
    ⟨some 37, .callF 279 [(.t 32), (.t 33), (.t 34), (.t 35), (.t 36)], none, []⟩,
    ⟨some 31, .move (.t 37), none, []⟩,
    ⟨some 38, .extract (.t 31) 0, none, []⟩,
    ⟨some 39, .extract (.t 31) 1, none, []⟩,
    ⟨some 1, .move (.t 38), none, []⟩,
    ⟨some 2, .move (.t 39), none, []⟩] .seq)
  (.seq (.region [⟨some 40, .move (.t 2), none, []⟩,
    ⟨some 12, .move (.t 40), none, []⟩] .seq)
  .ret)))))⟩
/-- slices.order2CmpFunc[[2]int64] -/
def DF279 : AFunc := ⟨32, [.tmp 10, .tmp 11], (.seq (.region [⟨some 10, .move (.c (.int .i64 0)), none, []⟩,
    ⟨some 11, .move (.c (.int .i64 0)), none, []⟩] .seq)
  (.seq (.seq (.region [⟨some 12, .move (.t 4), none, []⟩,
    ⟨some 13, .move (.t 0), none, []⟩,
    ⟨some 14, .move (.t 2), none, []⟩,
    ⟨some 15, .indexAddrS 2 (.t 13) (.t 14), none, []⟩,
    ⟨some 16, .loadN 2 (.t 15), none, [9]⟩,
    ⟨some 17, .move (.t 0), none, []⟩,
    ⟨some 18, .move (.t 1), none, []⟩,
    ⟨some 19, .indexAddrS 2 (.t 17) (.t 18), none, []⟩,
    ⟨some 20, .loadN 2 (.t 19), none, [9]⟩,
    ⟨some 21, .callV (.t 12) [(.t 16), (.t 20)], none, []⟩,
    ⟨some 22, .bin .lss (.t 21) (.c (.int .i64 0)), none, []⟩] .sink)
  (.cond (.t 22) (.seq (.region [⟨some 23, .move (.t 3), none, []⟩,
    ⟨some 24, .nilCheck (.t 23), none, []⟩,
    ⟨some 25, .load1 (.t 24), none, []⟩,
    ⟨some 26, .bin .add (.t 25) (.c (.int .i64 1)), none, []⟩,
    ⟨some 27, .nilCheck (.t 23), none, []⟩,
    ⟨none, .store 1 (.t 27) (.t 26), none, []⟩] .seq)
  (.seq (.region [⟨some 28, .move (.t 2), none, []⟩,
    ⟨some 29, .move (.t 1), none, []⟩,
    ⟨some 10, .move (.t 28), none, []⟩,
    ⟨some 11, .move (.t 29), none, []⟩] .seq)
  .ret))
  .skip))
  (.seq (.region [⟨some 30, .move (.t 1), none, []⟩,
    ⟨some 31, .move (.t 2), none, []⟩,
    ⟨some 10, .move (.t 30), none, []⟩,
    ⟨some 11, .move (.t 31), none, []⟩] .seq)
  .ret)))⟩def Dtab : Tr AFunc := (.node none (.node none (.node none (.node (some DF7) (.node none (.node none (.node (some DF63) (.node none (.node (some DF255) .nil .nil) .nil) .nil) (.node none (.node (some DF159) .nil .nil) (.node (some DF223) .nil .nil))) (.node none (.node none (.node (some DF143) (.node (some DF271) .nil .nil) .nil) (.node (some DF207) .nil .nil)) (.node none (.node (some DF175) .nil .nil) (.node (some DF239) .nil .nil)))) (.node (some DF23) (.node none (.node none (.node (some DF135) (.node (some DF263) .nil .nil) .nil) .nil) (.node none (.node (some DF167) .nil .nil) (.node (some DF231) .nil .nil))) (.node (some DF55) (.node (some DF87) (.node (some DF151) (.node (some DF279) .nil .nil) .nil) (.node (some DF215) .nil .nil)) (.node (some DF119) (.node (some DF183) .nil .nil) (.node (some DF247) .nil .nil))))) (.node none (.node none (.node none .nil (.node (some DF99) (.node (some DF163) .nil .nil) (.node (some DF227) .nil .nil))) (.node (some DF51) (.node none (.node (some DF147) (.node (some DF275) .nil .nil) .nil) (.node (some DF211) .nil .nil)) (.node (some DF115) (.node (some DF179) .nil .nil) (.node (some DF243) .nil .nil)))) (.node (some DF27) (.node none (.node (some DF75) (.node (some DF139) (.node (some DF267) .nil .nil) .nil) .nil) (.node (some DF107) .nil .nil)) (.node (some DF59) (.node (some DF91) (.node (some DF155) .nil .nil) (.node (some DF219) .nil .nil)) (.node (some DF123) (.node (some DF187) .nil .nil) (.node (some DF251) .nil .nil)))))) (.node none (.node none (.node none (.node (some DF33) (.node (some DF65) .nil .nil) (.node none (.node (some DF161) .nil .nil) (.node (some DF225) .nil .nil))) (.node (some DF49) (.node (some DF81) (.node (some DF145) (.node (some DF273) .nil .nil) .nil) (.node (some DF209) .nil .nil)) (.node none (.node (some DF177) .nil .nil) (.node (some DF241) .nil .nil)))) (.node (some DF25) (.node (some DF41) (.node none (.node (some DF137) (.node (some DF265) .nil .nil) .nil) .nil) (.node (some DF105) (.node (some DF169) .nil .nil) .nil)) (.node none (.node (some DF89) (.node (some DF153) .nil .nil) (.node (some DF217) .nil .nil)) (.node (some DF121) (.node (some DF185) .nil .nil) (.node (some DF249) .nil .nil))))) (.node none (.node none (.node (some DF37) (.node none (.node (some DF133) .nil .nil) .nil) (.node (some DF101) (.node (some DF165) .nil .nil) (.node (some DF229) .nil .nil))) (.node none (.node (some DF85) (.node (some DF149) (.node (some DF277) .nil .nil) .nil) (.node (some DF213) .nil .nil)) (.node (some DF117) (.node (some DF181) .nil .nil) (.node (some DF245) .nil .nil)))) (.node none (.node (some DF45) (.node (some DF77) (.node (some DF141) (.node (some DF269) .nil .nil) .nil) .nil) (.node (some DF109) (.node (some DF173) .nil .nil) .nil)) (.node (some DF61) (.node (some DF93) (.node (some DF157) .nil .nil) (.node (some DF221) .nil .nil)) (.node none (.node (some DF189) .nil .nil) (.node (some DF253) .nil .nil))))))) (.node none (.node none (.node none (.node none (.node (some DF32) (.node (some DF64) (.node none (.node (some DF256) .nil .nil) .nil) .nil) (.node none (.node (some DF160) .nil .nil) (.node (some DF224) .nil .nil))) (.node (some DF48) (.node (some DF80) (.node (some DF144) (.node (some DF272) .nil .nil) .nil) (.node (some DF208) .nil .nil)) (.node none (.node (some DF176) .nil .nil) (.node (some DF240) .nil .nil)))) (.node none (.node none (.node none (.node (some DF136) (.node (some DF264) .nil .nil) .nil) .nil) (.node (some DF104) .nil (.node (some DF232) .nil .nil))) (.node none (.node (some DF88) (.node (some DF152) .nil .nil) .nil) (.node (some DF120) .nil (.node (some DF248) .nil .nil))))) (.node none (.node none (.node none .nil (.node none (.node (some DF164) .nil .nil) (.node (some DF228) .nil .nil))) (.node none (.node none (.node (some DF148) (.node (some DF276) .nil .nil) .nil) (.node (some DF212) .nil .nil)) (.node (some DF116) (.node (some DF180) .nil .nil) (.node (some DF244) .nil .nil)))) (.node none (.node none (.node (some DF76) (.node (some DF140) (.node (some DF268) .nil .nil) .nil) .nil) (.node (some DF108) .nil .nil)) (.node (some DF60) (.node (some DF92) (.node (some DF156) .nil .nil) (.node (some DF220) .nil .nil)) (.node (some DF124) (.node (some DF188) .nil .nil) (.node (some DF252) .nil .nil)))))) (.node none (.node none (.node none (.node (some DF34) (.node (some DF66) .nil .nil) (.node none (.node (some DF162) .nil .nil) (.node (some DF226) .nil .nil))) (.node (some DF50) (.node none (.node (some DF146) (.node (some DF274) .nil .nil) .nil) (.node (some DF210) .nil .nil)) (.node (some DF114) (.node (some DF178) .nil .nil) .nil))) (.node none (.node none (.node (some DF74) (.node (some DF138) .nil .nil) .nil) (.node (some DF106) .nil .nil)) (.node none (.node (some DF90) (.node (some DF154) .nil .nil) (.node (some DF218) .nil .nil)) (.node (some DF122) (.node (some DF186) .nil .nil) (.node (some DF250) .nil .nil))))) (.node none (.node none (.node none (.node none (.node (some DF134) .nil .nil) .nil) (.node (some DF102) (.node (some DF166) .nil .nil) (.node (some DF230) .nil .nil))) (.node none (.node (some DF86) (.node (some DF150) (.node (some DF278) .nil .nil) .nil) (.node (some DF214) .nil .nil)) (.node (some DF118) (.node (some DF182) .nil .nil) (.node (some DF246) .nil .nil)))) (.node (some DF30) (.node (some DF46) (.node (some DF78) (.node (some DF142) (.node (some DF270) .nil .nil) .nil) .nil) (.node (some DF110) (.node (some DF174) .nil .nil) .nil)) (.node (some DF62) (.node (some DF94) (.node (some DF158) .nil .nil) (.node (some DF222) .nil .nil)) (.node none (.node (some DF190) .nil .nil) (.node (some DF254) .nil .nil))))))))

end Go.Eng
