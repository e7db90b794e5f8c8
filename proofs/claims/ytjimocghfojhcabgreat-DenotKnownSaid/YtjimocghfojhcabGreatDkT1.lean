/- The abstract code of the functions that the statement reaches, part 1. Without conditions. -/
import Derived.Test.YtjimocghfojhcabGreatDkE3
namespace Go.Eng
set_option maxRecDepth 100000
set_option linter.unusedVariables false
set_option linter.unusedSimpArgs false
/-- anabranch/anabranchlaw13.DenotKnown -/
def DF7 : AFunc := ⟨233, [.tmp 0], (.seq (.region [⟨some 0, .move (.c (.bool false)), none, []⟩] .seq)
  (.seq (.region [⟨some 29, .callF 32 [], none, []⟩,
    ⟨some 28, .move (.t 29), none, []⟩,
    ⟨some 30, .extract (.t 28) 0, none, []⟩,
    ⟨some 31, .extract (.t 28) 1, none, []⟩,
    ⟨some 32, .extract (.t 28) 2, none, []⟩,
    ⟨some 1, .alloc 55 [.sl0, .sl0, (.int .i64 0), (.int .i64 0)], none, []⟩,
    ⟨some 2, .alloc 57 [(.int .i64 0), (.int .i64 0), (.int .i64 0), (.int .i64 0), (.int .i64 0)], none, []⟩,
    ⟨none, .store 4 (.t 1) (.t 30), none, []⟩,
    ⟨none, .store 5 (.t 2) (.t 31), none, []⟩,
    ⟨some 3, .move (.t 32), none, []⟩] .seq)
  (.seq (.region [⟨some 34, .build [.sl0, .sl0, (.int .i64 0), (.int .i64 0)] [], none, []⟩,
    ⟨some 35, .loadN 5 (.t 2), none, []⟩,
    ⟨some 36, .move (.t 3), none, []⟩,
    ⟨some 37, .callF 23 [(.t 34), (.t 35), (.c .sl0), (.t 36)], none, []⟩,
    ⟨some 33, .move (.t 37), none, []⟩,
    ⟨some 38, .extract (.t 33) 0, none, []⟩,
    ⟨some 39, .extract (.t 33) 1, none, []⟩,
    ⟨some 4, .move (.t 38), none, []⟩,
    ⟨some 5, .move (.t 39), none, []⟩] .seq)
  (.seq (.region [⟨some 41, .loadN 4 (.t 1), none, []⟩,
    ⟨some 42, .build [(.int .i64 0), (.int .i64 0), (.int .i64 0), (.int .i64 0), (.int .i64 0)] [], none, []⟩,
    ⟨some 43, .move (.t 3), none, []⟩,
    ⟨some 44, .callF 23 [(.t 41), (.t 42), (.c .sl0), (.t 43)], none, []⟩,
    ⟨some 40, .move (.t 44), none, []⟩,
    ⟨some 45, .extract (.t 40) 0, none, []⟩,
    ⟨some 46, .extract (.t 40) 1, none, []⟩,
    ⟨some 6, .move (.t 45), none, []⟩,
    ⟨some 7, .move (.t 46), none, []⟩] .seq)
  (.seq (.region [⟨some 48, .loadN 4 (.t 1), none, []⟩,
    ⟨some 49, .loadN 5 (.t 2), none, []⟩,
    ⟨some 50, .build [(.int .i64 0), (.int .i64 0), .sl0, (.int .i64 0), (.int .i64 0), (.int .i64 0), (.int .i64 0), (.int .i64 0), (.int .i64 0), (.int .i64 0)] [(0, 1, (.c (.int .i64 1))), (1, 1, (.c (.int .i64 1))), (3, 1, (.c (.int .i64 1)))], none, []⟩,
    ⟨some 51, .buildSlice 86 1 10 [(.int .i64 0), (.int .i64 0), .sl0, (.int .i64 0), (.int .i64 0), (.int .i64 0), (.int .i64 0), (.int .i64 0), (.int .i64 0), (.int .i64 0)] [(0, 10, (.t 50))], none, []⟩,
    ⟨some 52, .move (.t 3), none, []⟩,
    ⟨some 53, .callF 23 [(.t 48), (.t 49), (.t 51), (.t 52)], none, []⟩,
    ⟨some 47, .move (.t 53), none, []⟩,
    ⟨some 54, .extract (.t 47) 0, none, []⟩,
    ⟨some 55, .extract (.t 47) 1, none, []⟩,
    ⟨some 8, .move (.t 54), none, []⟩,
    ⟨some 9, .move (.t 55), none, []⟩] .seq)
  (.seq (.region [⟨some 57, .loadN 4 (.t 1), none, []⟩,
    ⟨some 58, .loadN 5 (.t 2), none, []⟩,
    ⟨some 59, .callF 23 [(.t 57), (.t 58), (.c .sl0), (.c .sl0)], none, []⟩,
    ⟨some 56, .move (.t 59), none, []⟩,
    ⟨some 60, .extract (.t 56) 0, none, []⟩,
    ⟨some 61, .extract (.t 56) 1, none, []⟩,
    ⟨some 10, .move (.t 60), none, []⟩,
    ⟨some 11, .move (.t 61), none, []⟩] .seq)
  (.seq (.region [⟨some 62, .build [(.int .i64 0), (.int .i64 0), (.int .i64 0), (.int .i64 0)] [(0, 1, (.c (.int .i64 7))), (1, 1, (.c (.int .i64 2)))], none, []⟩,
    ⟨some 63, .build [(.int .i64 0), (.int .i64 0), (.int .i64 0), (.int .i64 0), .sl0] [(0, 4, (.t 62))], none, []⟩,
    ⟨some 64, .build [(.int .i64 0), (.int .i64 0), (.int .i64 0), (.int .i64 0)] [(0, 1, (.c (.int .i64 6))), (1, 1, (.c (.int .i64 5))), (3, 1, (.c (.int .i64 3)))], none, []⟩,
    ⟨some 65, .build [(.int .i64 0), (.int .i64 0), (.int .i64 0), (.int .i64 0), .sl0] [(0, 4, (.t 64))], none, []⟩,
    ⟨some 66, .buildSlice 95 2 5 [(.int .i64 0), (.int .i64 0), (.int .i64 0), (.int .i64 0), .sl0, (.int .i64 0), (.int .i64 0), (.int .i64 0), (.int .i64 0), .sl0] [(0, 5, (.t 63)), (5, 5, (.t 65))], none, []⟩,
    ⟨some 67, .build [.sl0, .sl0, (.int .i64 0), (.int .i64 0)] [(1, 1, (.t 66)), (3, 1, (.c (.int .i64 1)))], none, []⟩,
    ⟨some 12, .alloc 55 [.sl0, .sl0, (.int .i64 0), (.int .i64 0)], none, []⟩,
    ⟨none, .store 4 (.t 12) (.t 67), none, []⟩] .seq)
  (.seq (.region [⟨some 68, .callF 33 [(.c (.int .u32 1)), (.c (.int .i64 4)), (.c (.int .i64 10))], none, []⟩,
    ⟨some 69, .callF 33 [(.c (.int .u32 1)), (.c (.int .i64 6)), (.c (.int .i64 1))], none, []⟩,
    ⟨some 13, .alloc 89 [(.bool false), (.int .i64 0), (.int .u32 0), (.int .i64 0), (.int .i64 0), (.int .u8 0), (.bool false), (.bool false)], none, []⟩,
    ⟨some 14, .alloc 89 [(.bool false), (.int .i64 0), (.int .u32 0), (.int .i64 0), (.int .i64 0), (.int .u8 0), (.bool false), (.bool false)], none, []⟩,
    ⟨none, .store 8 (.t 13) (.t 68), none, []⟩,
    ⟨none, .store 8 (.t 14) (.t 69), none, []⟩] .seq)
  (.seq (.region [⟨some 70, .fieldAddr 2 (.t 14), none, []⟩,
    ⟨some 71, .fieldAddr 3 (.t 70), none, []⟩,
    ⟨none, .store 1 (.t 71) (.c (.int .u8 1)), none, []⟩] .seq)
  (.seq (.region [⟨some 72, .callF 33 [(.c (.int .u32 1)), (.c (.int .i64 7)), (.c (.int .i64 5))], none, []⟩,
    ⟨some 15, .alloc 89 [(.bool false), (.int .i64 0), (.int .u32 0), (.int .i64 0), (.int .i64 0), (.int .u8 0), (.bool false), (.bool false)], none, []⟩,
    ⟨none, .store 8 (.t 15) (.t 72), none, []⟩] .seq)
  (.seq (.region [⟨some 73, .fieldAddr 2 (.t 15), none, []⟩,
    ⟨some 74, .fieldAddr 3 (.t 73), none, []⟩,
    ⟨none, .store 1 (.t 74) (.c (.int .u8 1)), none, []⟩] .seq)
  (.seq (.region [⟨some 76, .loadN 4 (.t 12), none, [6, 9]⟩,
    ⟨some 77, .loadN 5 (.t 2), none, [6, 9]⟩,
    ⟨some 78, .loadN 8 (.t 13), none, [6, 9]⟩,
    ⟨some 79, .loadN 8 (.t 15), none, [6, 9]⟩,
    ⟨some 80, .buildSlice 89 2 8 [(.bool false), (.int .i64 0), (.int .u32 0), (.int .i64 0), (.int .i64 0), (.int .u8 0), (.bool false), (.bool false), (.bool false), (.int .i64 0), (.int .u32 0), (.int .i64 0), (.int .i64 0), (.int .u8 0), (.bool false), (.bool false)] [(0, 8, (.t 78)), (8, 8, (.t 79))], none, []⟩,
    ⟨some 81, .loadN 8 (.t 14), none, [6, 9]⟩,
    ⟨some 82, .callF 33 [(.c (.int .u32 1)), (.c (.int .i64 9)), (.c (.int .i64 7))], none, []⟩,
    ⟨some 83, .buildSlice 89 2 8 [(.bool false), (.int .i64 0), (.int .u32 0), (.int .i64 0), (.int .i64 0), (.int .u8 0), (.bool false), (.bool false), (.bool false), (.int .i64 0), (.int .u32 0), (.int .i64 0), (.int .i64 0), (.int .u8 0), (.bool false), (.bool false)] [(0, 8, (.t 81)), (8, 8, (.t 82))], none, []⟩,
    ⟨some 84, .buildSlice 87 2 1 [.sl0, .sl0] [(0, 1, (.t 80)), (1, 1, (.t 83))], none, []⟩,
    ⟨some 85, .callF 23 [(.t 76), (.t 77), (.c .sl0), (.t 84)], none, []⟩,
    ⟨some 75, .move (.t 85), none, []⟩,
    ⟨some 86, .extract (.t 75) 0, none, []⟩,
    ⟨some 87, .extract (.t 75) 1, none, []⟩,
    ⟨some 16, .move (.t 86), none, []⟩,
    ⟨some 17, .move (.t 87), none, []⟩] .sink)
  (.seq (.region [⟨some 88, .build [(.int .i64 0), (.int .i64 0), (.int .i64 0), (.int .i64 0)] [(0, 1, (.c (.int .i64 4))), (1, 1, (.c (.int .i64 5))), (3, 1, (.c (.int .i64 1)))], none, []⟩,
    ⟨some 89, .build [(.int .i64 0), (.int .i64 0), .sl0, (.int .i64 0), (.int .i64 0), (.int .i64 0), (.int .i64 0), (.int .i64 0), (.int .i64 0), (.int .i64 0)] [(0, 1, (.c (.int .i64 3))), (1, 1, (.c (.int .i64 8))), (4, 1, (.c (.int .i64 1))), (5, 4, (.t 88)), (9, 1, (.c (.int .i64 1)))], none, []⟩,
    ⟨some 90, .buildSlice 86 1 10 [(.int .i64 0), (.int .i64 0), .sl0, (.int .i64 0), (.int .i64 0), (.int .i64 0), (.int .i64 0), (.int .i64 0), (.int .i64 0), (.int .i64 0)] [(0, 10, (.t 89))], none, []⟩,
    ⟨some 18, .move (.t 90), none, []⟩] .seq)
  (.seq (.region [⟨some 92, .loadN 4 (.t 1), none, []⟩,
    ⟨some 93, .loadN 5 (.t 2), none, []⟩,
    ⟨some 94, .move (.t 18), none, []⟩,
    ⟨some 95, .move (.t 3), none, []⟩,
    ⟨some 96, .callF 23 [(.t 92), (.t 93), (.t 94), (.t 95)], none, []⟩,
    ⟨some 91, .move (.t 96), none, []⟩,
    ⟨some 97, .extract (.t 91) 0, none, []⟩,
    ⟨some 98, .extract (.t 91) 1, none, []⟩,
    ⟨some 19, .move (.t 97), none, []⟩,
    ⟨some 20, .move (.t 98), none, []⟩] .seq)
  (.seq (.region [⟨some 99, .move (.t 18), none, []⟩,
    ⟨some 100, .indexAddrS 10 (.t 99) (.c (.int .i64 0)), none, []⟩,
    ⟨some 101, .fieldAddr 9 (.t 100), none, []⟩,
    ⟨none, .store 1 (.t 101) (.c (.int .i64 2)), none, []⟩] .seq)
  (.seq (.region [⟨some 103, .loadN 4 (.t 1), none, []⟩,
    ⟨some 104, .loadN 5 (.t 2), none, []⟩,
    ⟨some 105, .move (.t 18), none, []⟩,
    ⟨some 106, .move (.t 3), none, []⟩,
    ⟨some 107, .callF 23 [(.t 103), (.t 104), (.t 105), (.t 106)], none, []⟩,
    ⟨some 102, .move (.t 107), none, []⟩,
    ⟨some 108, .extract (.t 102) 0, none, []⟩,
    ⟨some 109, .extract (.t 102) 1, none, []⟩,
    ⟨some 21, .move (.t 108), none, []⟩,
    ⟨some 22, .move (.t 109), none, []⟩] .seq)
  (.seq (.region [⟨some 110, .move (.t 18), none, []⟩,
    ⟨some 111, .indexAddrS 10 (.t 110) (.c (.int .i64 0)), none, []⟩,
    ⟨some 112, .fieldAddr 9 (.t 111), none, []⟩,
    ⟨none, .store 1 (.t 112) (.c (.int .i64 0)), none, []⟩] .seq)
  (.seq (.region [⟨some 114, .loadN 4 (.t 1), none, []⟩,
    ⟨some 115, .loadN 5 (.t 2), none, []⟩,
    ⟨some 116, .move (.t 18), none, []⟩,
    ⟨some 117, .move (.t 3), none, []⟩,
    ⟨some 118, .callF 23 [(.t 114), (.t 115), (.t 116), (.t 117)], none, []⟩,
    ⟨some 113, .move (.t 118), none, []⟩,
    ⟨some 119, .extract (.t 113) 0, none, []⟩,
    ⟨some 120, .extract (.t 113) 1, none, []⟩,
    ⟨some 23, .move (.t 119), none, []⟩,
    ⟨some 24, .move (.t 120), none, []⟩] .seq)
  (.seq (.region [⟨some 121, .callF 33 [(.c (.int .u32 3)), (.c (.int .i64 (-1))), (.c (.int .i64 9))], none, []⟩,
    ⟨some 25, .alloc 89 [(.bool false), (.int .i64 0), (.int .u32 0), (.int .i64 0), (.int .i64 0), (.int .u8 0), (.bool false), (.bool false)], none, []⟩,
    ⟨none, .store 8 (.t 25) (.t 121), none, []⟩] .seq)
  (.seq (.region [⟨some 122, .fieldAddr 2 (.t 25), none, []⟩,
    ⟨some 123, .fieldAddr 3 (.t 122), none, []⟩,
    ⟨none, .store 1 (.t 123) (.c (.int .u8 2)), none, []⟩] .seq)
  (.seq (.region [⟨some 124, .fieldAddr 2 (.t 25), none, []⟩,
    ⟨some 125, .fieldAddr 5 (.t 124), none, []⟩,
    ⟨none, .store 1 (.t 125) (.c (.bool true)), none, []⟩] .seq)
  (.seq (.region [⟨some 127, .loadN 4 (.t 1), none, [2, 4, 5, 6, 7, 10]⟩,
    ⟨some 128, .loadN 5 (.t 2), none, [2, 4, 5, 6, 7, 10]⟩,
    ⟨some 129, .callF 34 [(.c (.int .i64 9))], none, []⟩,
    ⟨some 130, .loadN 8 (.t 25), none, [2, 4, 5, 6, 7, 10]⟩,
    ⟨some 131, .callF 34 [(.c (.int .i64 1099511627777))], none, []⟩,
    ⟨some 132, .callF 33 [(.c (.int .u32 3)), (.c (.int .i64 2199023255552)), (.c (.int .i64 4))], none, []⟩,
    ⟨some 133, .callF 34 [(.c (.int .i64 1152921504606846976))], none, []⟩,
    ⟨some 134, .callF 33 [(.c (.int .u32 3)), (.c (.int .i64 5)), (.c (.int .i64 5))], none, []⟩,
    ⟨some 135, .buildSlice 89 6 8 [(.bool false), (.int .i64 0), (.int .u32 0), (.int .i64 0), (.int .i64 0), (.int .u8 0), (.bool false), (.bool false), (.bool false), (.int .i64 0), (.int .u32 0), (.int .i64 0), (.int .i64 0), (.int .u8 0), (.bool false), (.bool false), (.bool false), (.int .i64 0), (.int .u32 0), (.int .i64 0), (.int .i64 0), (.int .u8 0), (.bool false), (.bool false), (.bool false), (.int .i64 0), (.int .u32 0), (.int .i64 0), (.int .i64 0), (.int .u8 0), (.bool false), (.bool false), (.bool false), (.int .i64 0), (.int .u32 0), (.int .i64 0), (.int .i64 0), (.int .u8 0), (.bool false), (.bool false), (.bool false), (.int .i64 0), (.int .u32 0), (.int .i64 0), (.int .i64 0), (.int .u8 0), (.bool false), (.bool false)] [(0, 8, (.t 129)), (8, 8, (.t 130)), (16, 8, (.t 131)), (24, 8, (.t 132)), (32, 8, (.t 133)), (40, 8, (.t 134))], none, []⟩,
    ⟨some 136, .buildSlice 87 1 1 [.sl0] [(0, 1, (.t 135))], none, []⟩,
    ⟨some 137, .callF 23 [(.t 127), (.t 128), (.c .sl0), (.t 136)], none, []⟩,
    ⟨some 126, .move (.t 137), none, []⟩,
    ⟨some 138, .extract (.t 126) 0, none, []⟩,
    ⟨some 139, .extract (.t 126) 1, none, []⟩,
    ⟨some 26, .move (.t 138), none, []⟩,
    ⟨some 27, .move (.t 139), none, []⟩] .sink)
  (.seq (.region [⟨some 140, .move (.c (.bool true)), none, []⟩,
    ⟨some 141, .callF 25 [], some (140, true), []⟩,
    ⟨some 142, .pick (.t 140) (.t 141) (.c (.bool false)), none, []⟩,
    ⟨some 143, .move (.t 142), none, []⟩,
    ⟨some 144, .move (.t 5), some (143, true), []⟩,
    ⟨some 145, .bin .eql (.t 144) (.c (.int .i64 4)), some (143, true), []⟩,
    ⟨some 146, .pick (.t 143) (.t 145) (.c (.bool false)), none, []⟩,
    ⟨some 147, .move (.t 146), none, []⟩,
    ⟨some 148, .move (.t 7), some (147, true), []⟩,
    ⟨some 149, .bin .eql (.t 148) (.c (.int .i64 2)), some (147, true), []⟩,
    ⟨some 150, .pick (.t 147) (.t 149) (.c (.bool false)), none, []⟩,
    ⟨some 151, .move (.t 150), none, []⟩,
    ⟨some 152, .move (.t 9), some (151, true), []⟩,
    ⟨some 153, .bin .eql (.t 152) (.c (.int .i64 2)), some (151, true), []⟩,
    ⟨some 154, .pick (.t 151) (.t 153) (.c (.bool false)), none, []⟩,
    ⟨some 155, .move (.t 154), none, []⟩,
    ⟨some 156, .move (.t 10), some (155, true), []⟩,
    ⟨some 157, .len .sl (.t 156), some (155, true), []⟩,
    ⟨some 158, .bin .eql (.t 157) (.c (.int .i64 0)), some (155, true), []⟩,
    ⟨some 159, .pick (.t 155) (.t 158) (.c (.bool false)), none, []⟩,
    ⟨some 160, .move (.t 159), none, []⟩,
    ⟨some 161, .move (.t 11), some (160, true), []⟩,
    ⟨some 162, .bin .eql (.t 161) (.c (.int .i64 0)), some (160, true), []⟩,
    ⟨some 163, .pick (.t 160) (.t 162) (.c (.bool false)), none, []⟩,
    ⟨some 164, .move (.t 163), none, []⟩,
    ⟨some 165, .move (.t 17), some (164, true), []⟩,
    ⟨some 166, .bin .eql (.t 165) (.c (.int .i64 0)), some (164, true), []⟩,
    ⟨some 167, .pick (.t 164) (.t 166) (.c (.bool false)), none, []⟩,
    ⟨some 168, .move (.t 167), none, []⟩,
    ⟨some 169, .move (.t 16), some (168, true), []⟩,
    ⟨some 170, .build [(.int .u32 0), (.int .i64 0), (.int .i64 0), (.int .u8 0), (.bool false), (.bool false)] [(0, 1, (.c (.int .u32 1))), (1, 1, (.c (.int .i64 13))), (2, 1, (.c (.int .i64 12)))], some (168, true), []⟩,
    ⟨some 171, .buildSlice 43 1 6 [(.int .u32 0), (.int .i64 0), (.int .i64 0), (.int .u8 0), (.bool false), (.bool false)] [(0, 6, (.t 170))], some (168, true), []⟩,
    ⟨some 172, .callF 27 [(.t 169), (.t 171)], some (168, true), []⟩,
    ⟨some 173, .pick (.t 168) (.t 172) (.c (.bool false)), none, []⟩,
    ⟨some 174, .move (.t 173), none, []⟩,
    ⟨some 175, .move (.t 20), some (174, true), []⟩,
    ⟨some 176, .bin .eql (.t 175) (.c (.int .i64 0)), some (174, true), []⟩,
    ⟨some 177, .pick (.t 174) (.t 176) (.c (.bool false)), none, []⟩,
    ⟨some 178, .move (.t 177), none, []⟩,
    ⟨some 179, .move (.t 19), some (178, true), []⟩,
    ⟨some 180, .build [(.int .u32 0), (.int .i64 0), (.int .i64 0), (.int .u8 0), (.bool false), (.bool false)] [(0, 1, (.c (.int .u32 1))), (1, 1, (.c (.int .i64 7))), (2, 1, (.c (.int .i64 1))), (5, 1, (.c (.bool true)))], some (178, true), []⟩,
    ⟨some 181, .build [(.int .u32 0), (.int .i64 0), (.int .i64 0), (.int .u8 0), (.bool false), (.bool false)] [(0, 1, (.c (.int .u32 1))), (1, 1, (.c (.int .i64 7))), (2, 1, (.c (.int .i64 8)))], some (178, true), []⟩,
    ⟨some 182, .build [(.int .u32 0), (.int .i64 0), (.int .i64 0), (.int .u8 0), (.bool false), (.bool false)] [(0, 1, (.c (.int .u32 1))), (1, 1, (.c (.int .i64 9))), (2, 1, (.c (.int .i64 10)))], some (178, true), []⟩,
    ⟨some 183, .build [(.int .u32 0), (.int .i64 0), (.int .i64 0), (.int .u8 0), (.bool false), (.bool false)] [(0, 1, (.c (.int .u32 2))), (1, 1, (.c (.int .i64 14))), (2, 1, (.c (.int .i64 14)))], some (178, true), []⟩,
    ⟨some 184, .build [(.int .u32 0), (.int .i64 0), (.int .i64 0), (.int .u8 0), (.bool false), (.bool false)] [(0, 1, (.c (.int .u32 2))), (1, 1, (.c (.int .i64 15))), (2, 1, (.c (.int .i64 1))), (5, 1, (.c (.bool true)))], some (178, true), []⟩,
    ⟨some 185, .buildSlice 43 5 6 [(.int .u32 0), (.int .i64 0), (.int .i64 0), (.int .u8 0), (.bool false), (.bool false), (.int .u32 0), (.int .i64 0), (.int .i64 0), (.int .u8 0), (.bool false), (.bool false), (.int .u32 0), (.int .i64 0), (.int .i64 0), (.int .u8 0), (.bool false), (.bool false), (.int .u32 0), (.int .i64 0), (.int .i64 0), (.int .u8 0), (.bool false), (.bool false), (.int .u32 0), (.int .i64 0), (.int .i64 0), (.int .u8 0), (.bool false), (.bool false)] [(0, 6, (.t 180)), (6, 6, (.t 181)), (12, 6, (.t 182)), (18, 6, (.t 183)), (24, 6, (.t 184))], some (178, true), []⟩,
    ⟨some 186, .callF 27 [(.t 179), (.t 185)], some (178, true), []⟩,
    ⟨some 187, .pick (.t 178) (.t 186) (.c (.bool false)), none, []⟩,
    ⟨some 188, .move (.t 187), none, []⟩,
    ⟨some 189, .move (.t 22), some (188, true), []⟩,
    ⟨some 190, .bin .eql (.t 189) (.c (.int .i64 0)), some (188, true), []⟩,
    ⟨some 191, .pick (.t 188) (.t 190) (.c (.bool false)), none, []⟩,
    ⟨some 192, .move (.t 191), none, []⟩,
    ⟨some 193, .move (.t 21), some (192, true), []⟩,
    ⟨some 194, .build [(.int .u32 0), (.int .i64 0), (.int .i64 0), (.int .u8 0), (.bool false), (.bool false)] [(0, 1, (.c (.int .u32 1))), (1, 1, (.c (.int .i64 7))), (2, 1, (.c (.int .i64 1))), (5, 1, (.c (.bool true)))], some (192, true), []⟩,
    ⟨some 195, .build [(.int .u32 0), (.int .i64 0), (.int .i64 0), (.int .u8 0), (.bool false), (.bool false)] [(0, 1, (.c (.int .u32 1))), (1, 1, (.c (.int .i64 9))), (2, 1, (.c (.int .i64 18)))], some (192, true), []⟩,
    ⟨some 196, .build [(.int .u32 0), (.int .i64 0), (.int .i64 0), (.int .u8 0), (.bool false), (.bool false)] [(0, 1, (.c (.int .u32 2))), (1, 1, (.c (.int .i64 14))), (2, 1, (.c (.int .i64 14)))], some (192, true), []⟩,
    ⟨some 197, .build [(.int .u32 0), (.int .i64 0), (.int .i64 0), (.int .u8 0), (.bool false), (.bool false)] [(0, 1, (.c (.int .u32 2))), (1, 1, (.c (.int .i64 15))), (2, 1, (.c (.int .i64 1))), (5, 1, (.c (.bool true)))], some (192, true), []⟩,
    ⟨some 198, .buildSlice 43 4 6 [(.int .u32 0), (.int .i64 0), (.int .i64 0), (.int .u8 0), (.bool false), (.bool false), (.int .u32 0), (.int .i64 0), (.int .i64 0), (.int .u8 0), (.bool false), (.bool false), (.int .u32 0), (.int .i64 0), (.int .i64 0), (.int .u8 0), (.bool false), (.bool false), (.int .u32 0), (.int .i64 0), (.int .i64 0), (.int .u8 0), (.bool false), (.bool false)] [(0, 6, (.t 194)), (6, 6, (.t 195)), (12, 6, (.t 196)), (18, 6, (.t 197))], some (192, true), []⟩,
    ⟨some 199, .callF 27 [(.t 193), (.t 198)], some (192, true), []⟩,
    ⟨some 200, .pick (.t 192) (.t 199) (.c (.bool false)), none, []⟩,
    ⟨some 201, .move (.t 200), none, []⟩,
    ⟨some 202, .move (.t 24), some (201, true), []⟩,
    ⟨some 203, .bin .eql (.t 202) (.c (.int .i64 0)), some (201, true), []⟩,
    ⟨some 204, .pick (.t 201) (.t 203) (.c (.bool false)), none, []⟩,
    ⟨some 205, .move (.t 204), none, []⟩,
    ⟨some 206, .move (.t 23), some (205, true), []⟩,
    ⟨some 207, .build [(.int .u32 0), (.int .i64 0), (.int .i64 0), (.int .u8 0), (.bool false), (.bool false)] [(0, 1, (.c (.int .u32 1))), (1, 1, (.c (.int .i64 7))), (2, 1, (.c (.int .i64 1))), (5, 1, (.c (.bool true)))], some (205, true), []⟩,
    ⟨some 208, .build [(.int .u32 0), (.int .i64 0), (.int .i64 0), (.int .u8 0), (.bool false), (.bool false)] [(0, 1, (.c (.int .u32 1))), (1, 1, (.c (.int .i64 9))), (2, 1, (.c (.int .i64 8)))], some (205, true), []⟩,
    ⟨some 209, .build [(.int .u32 0), (.int .i64 0), (.int .i64 0), (.int .u8 0), (.bool false), (.bool false)] [(0, 1, (.c (.int .u32 1))), (1, 1, (.c (.int .i64 9))), (2, 1, (.c (.int .i64 10)))], some (205, true), []⟩,
    ⟨some 210, .build [(.int .u32 0), (.int .i64 0), (.int .i64 0), (.int .u8 0), (.bool false), (.bool false)] [(0, 1, (.c (.int .u32 2))), (1, 1, (.c (.int .i64 14))), (2, 1, (.c (.int .i64 14)))], some (205, true), []⟩,
    ⟨some 211, .build [(.int .u32 0), (.int .i64 0), (.int .i64 0), (.int .u8 0), (.bool false), (.bool false)] [(0, 1, (.c (.int .u32 2))), (1, 1, (.c (.int .i64 15))), (2, 1, (.c (.int .i64 1))), (5, 1, (.c (.bool true)))], some (205, true), []⟩,
    ⟨some 212, .buildSlice 43 5 6 [(.int .u32 0), (.int .i64 0), (.int .i64 0), (.int .u8 0), (.bool false), (.bool false), (.int .u32 0), (.int .i64 0), (.int .i64 0), (.int .u8 0), (.bool false), (.bool false), (.int .u32 0), (.int .i64 0), (.int .i64 0), (.int .u8 0), (.bool false), (.bool false), (.int .u32 0), (.int .i64 0), (.int .i64 0), (.int .u8 0), (.bool false), (.bool false), (.int .u32 0), (.int .i64 0), (.int .i64 0), (.int .u8 0), (.bool false), (.bool false)] [(0, 6, (.t 207)), (6, 6, (.t 208)), (12, 6, (.t 209)), (18, 6, (.t 210)), (24, 6, (.t 211))], some (205, true), []⟩,
    ⟨some 213, .callF 27 [(.t 206), (.t 212)], some (205, true), []⟩,
    ⟨some 214, .pick (.t 205) (.t 213) (.c (.bool false)), none, []⟩,
    ⟨some 215, .move (.t 214), none, []⟩,
    ⟨some 216, .move (.t 27), some (215, true), []⟩,
    ⟨some 217, .bin .eql (.t 216) (.c (.int .i64 0)), some (215, true), []⟩,
    ⟨some 218, .pick (.t 215) (.t 217) (.c (.bool false)), none, []⟩,
    ⟨some 219, .move (.t 218), none, []⟩,
    ⟨some 220, .move (.t 26), some (219, true), []⟩,
    ⟨some 221, .build [(.int .u32 0), (.int .i64 0), (.int .i64 0), (.int .u8 0), (.bool false), (.bool false)] [(0, 1, (.c (.int .u32 3))), (1, 1, (.c (.int .i64 4))), (4, 1, (.c (.bool true)))], some (219, true), []⟩,
    ⟨some 222, .build [(.int .u32 0), (.int .i64 0), (.int .i64 0), (.int .u8 0), (.bool false), (.bool false)] [(0, 1, (.c (.int .u32 3))), (1, 1, (.c (.int .i64 4))), (3, 1, (.c (.int .u8 2))), (4, 1, (.c (.bool true)))], some (219, true), []⟩,
    ⟨some 223, .buildSlice 43 2 6 [(.int .u32 0), (.int .i64 0), (.int .i64 0), (.int .u8 0), (.bool false), (.bool false), (.int .u32 0), (.int .i64 0), (.int .i64 0), (.int .u8 0), (.bool false), (.bool false)] [(0, 6, (.t 221)), (6, 6, (.t 222))], some (219, true), []⟩,
    ⟨some 224, .callF 27 [(.t 220), (.t 223)], some (219, true), []⟩,
    ⟨some 225, .pick (.t 219) (.t 224) (.c (.bool false)), none, []⟩,
    ⟨some 226, .move (.t 225), none, []⟩,
    ⟨some 227, .build [.sl0, .sl0, (.int .i64 0), (.int .i64 0)] [], some (226, true), []⟩,
    ⟨some 228, .move (.t 16), some (226, true), []⟩,
    ⟨some 229, .callF 30 [(.t 227), (.t 228)], some (226, true), []⟩,
    ⟨some 230, .len .sl (.t 229), some (226, true), []⟩,
    ⟨some 231, .bin .eql (.t 230) (.c (.int .i64 0)), some (226, true), []⟩,
    ⟨some 232, .pick (.t 226) (.t 231) (.c (.bool false)), none, []⟩,
    ⟨some 0, .move (.t 232), none, []⟩] .seq)
  .ret)))))))))))))))))))))))⟩
/-- anabranch/denot.Of -/
def DF23 : AFunc := ⟨92, [.tmp 8, .tmp 9], (.seq (.region [⟨some 4, .box 55 (.t 0), none, []⟩,
    ⟨some 5, .box 57 (.t 1), none, []⟩,
    ⟨some 8, .move (.c .sl0), none, []⟩,
    ⟨some 9, .move (.c (.int .i64 0)), none, []⟩] .seq)
  (.seq (.region [⟨some 23, .loadN 4 (.t 4), none, []⟩,
    ⟨some 24, .loadN 5 (.t 5), none, []⟩,
    ⟨some 25, .callF 48 [(.t 23), (.t 24)], none, []⟩,
    ⟨some 22, .move (.t 25), none, []⟩,
    ⟨some 26, .extract (.t 22) 0, none, []⟩,
    ⟨some 27, .extract (.t 22) 1, none, []⟩,
    ⟨some 10, .move (.t 26), none, []⟩,
    ⟨some 11, .move (.t 27), none, []⟩] .seq)
  (.seq (.seq (.region [⟨some 28, .move (.t 11), none, []⟩,
    ⟨some 29, .bin .neq (.t 28) (.c (.int .i64 0)), none, []⟩] .seq)
  (.cond (.t 29) (.seq (.region [⟨some 30, .move (.t 11), none, []⟩,
    ⟨some 8, .move (.c .sl0), none, []⟩,
    ⟨some 9, .move (.t 30), none, []⟩] .seq)
  .ret)
  .skip))
  (.seq (.seq (.region [⟨some 31, .move (.t 2), none, []⟩,
    ⟨some 32, .len .sl (.t 31), none, []⟩,
    ⟨some 33, .move (.c (.int .i64 0)), none, []⟩] .seq)
  (.block 0 (.loop (.seq (.region [⟨some 34, .bin .lss (.t 33) (.t 32), none, []⟩] .seq)
  (.seq (.cond (.t 34) .skip
  (.exit 0))
  (.seq (.block 1 (.seq (.region [⟨some 35, .indexAddrS 10 (.t 31) (.t 33), none, []⟩,
    ⟨some 36, .loadN 10 (.t 35), none, []⟩,
    ⟨some 13, .alloc 86 [(.int .i64 0), (.int .i64 0), .sl0, (.int .i64 0), (.int .i64 0), (.int .i64 0), (.int .i64 0), (.int .i64 0), (.int .i64 0), (.int .i64 0)], none, []⟩,
    ⟨none, .store 10 (.t 13) (.t 36), none, []⟩] .seq)
  (.seq (.region [⟨some 37, .move (.t 10), none, []⟩,
    ⟨some 38, .loadN 10 (.t 13), none, []⟩,
    ⟨some 39, .callF 55 [(.t 37), (.t 38), (.c (.int .i64 0))], none, []⟩,
    ⟨some 40, .bin .neq (.t 39) (.c (.int .i64 0)), none, []⟩] .seq)
  (.cond (.t 40) (.seq (.region [⟨some 8, .move (.c .sl0), none, []⟩,
    ⟨some 9, .move (.c (.int .i64 2)), none, []⟩] .seq)
  .ret)
  .skip))))
  (.region [⟨some 41, .bin .add (.t 33) (.c (.int .i64 1)), none, []⟩,
    ⟨some 33, .move (.t 41), none, []⟩] .seq)))))))
  (.seq (.region [⟨some 14, .move (.c .sl0), none, []⟩,
    ⟨some 15, .move (.c .sl0), none, []⟩] .seq)
  (.seq (.seq (.region [⟨some 42, .move (.t 3), none, []⟩,
    ⟨some 43, .len .sl (.t 42), none, []⟩,
    ⟨some 44, .move (.c (.int .i64 0)), none, []⟩] .seq)
  (.block 2 (.loop (.seq (.region [⟨some 45, .bin .lss (.t 44) (.t 43), none, []⟩] .seq)
  (.seq (.cond (.t 45) .skip
  (.exit 2))
  (.seq (.block 3 (.seq (.region [⟨some 46, .indexAddrS 1 (.t 42) (.t 44), none, []⟩,
    ⟨some 47, .load1 (.t 46), none, []⟩,
    ⟨some 17, .move (.t 47), none, []⟩] .seq)
  (.seq (.region [⟨some 49, .move (.t 17), none, []⟩,
    ⟨some 50, .fieldAddr 2 (.t 4), none, []⟩,
    ⟨some 51, .load1 (.t 50), none, []⟩,
    ⟨some 52, .callF 59 [(.t 49), (.t 51)], none, []⟩,
    ⟨some 48, .move (.t 52), none, []⟩,
    ⟨some 53, .extract (.t 48) 0, none, []⟩,
    ⟨some 54, .extract (.t 48) 1, none, []⟩,
    ⟨some 18, .move (.t 53), none, []⟩,
    ⟨some 19, .move (.t 54), none, []⟩] .seq)
  (.region [⟨some 55, .move (.t 14), none, []⟩,
    ⟨some 56, .move (.t 18), none, []⟩,
    ⟨some 57, .append 43 6 32 [(.int .u32 0), (.int .i64 0), (.int .i64 0), (.int .u8 0), (.bool false), (.bool false)] (.t 55) (.t 56), none, []⟩,
    ⟨some 58, .move (.t 15), none, []⟩,
    ⟨some 59, .move (.t 19), none, []⟩,
    ⟨some 60, .append 43 6 32 [(.int .u32 0), (.int .i64 0), (.int .i64 0), (.int .u8 0), (.bool false), (.bool false)] (.t 58) (.t 59), none, []⟩,
    ⟨some 14, .move (.t 57), none, []⟩,
    ⟨some 15, .move (.t 60), none, []⟩] .seq))))
  (.region [⟨some 61, .bin .add (.t 44) (.c (.int .i64 1)), none, []⟩,
    ⟨some 44, .move (.t 61), none, []⟩] .seq)))))))
  (.seq (.region [⟨some 62, .move (.t 10), none, []⟩,
    ⟨some 63, .loadN 4 (.t 4), none, []⟩,
    ⟨some 64, .callF 61 [(.t 63)], none, []⟩,
    ⟨some 65, .move (.t 15), none, []⟩,
    ⟨some 66, .callF 62 [(.t 65)], none, []⟩,
    ⟨some 67, .callF 60 [(.t 62), (.t 64), (.t 66)], none, []⟩,
    ⟨some 20, .move (.t 67), none, []⟩] .seq)
  (.seq (.seq (.region [⟨some 68, .fieldAddr 1 (.t 4), none, []⟩,
    ⟨some 69, .load1 (.t 68), none, []⟩,
    ⟨some 70, .len .sl (.t 69), none, []⟩,
    ⟨some 71, .move (.c (.int .i64 0)), none, []⟩] .seq)
  (.block 4 (.loop (.seq (.region [⟨some 72, .bin .lss (.t 71) (.t 70), none, []⟩] .seq)
  (.seq (.cond (.t 72) .skip
  (.exit 4))
  (.seq (.block 5 (.seq (.region [⟨some 73, .move (.t 71), none, []⟩,
    ⟨some 21, .move (.t 73), none, []⟩] .seq)
  (.region [⟨some 74, .move (.t 10), none, []⟩,
    ⟨some 75, .loadN 4 (.t 4), none, [4]⟩,
    ⟨some 76, .move (.t 21), none, []⟩,
    ⟨some 77, .bin .add (.t 76) (.c (.int .i64 1)), none, []⟩,
    ⟨some 78, .callF 63 [(.t 75), (.t 77)], none, []⟩,
    ⟨some 79, .move (.t 10), none, []⟩,
    ⟨some 80, .loadN 4 (.t 4), none, [4, 9]⟩,
    ⟨some 81, .move (.t 21), none, []⟩,
    ⟨some 82, .bin .add (.t 81) (.c (.int .i64 1)), none, []⟩,
    ⟨some 83, .callF 65 [(.t 80), (.t 82)], none, []⟩,
    ⟨some 84, .move (.t 20), none, []⟩,
    ⟨some 85, .callF 64 [(.t 79), (.t 83), (.t 84)], none, []⟩,
    ⟨some 86, .callF 60 [(.t 74), (.t 78), (.t 85)], none, []⟩,
    ⟨some 20, .move (.t 86), none, []⟩] .sink)))
  (.region [⟨some 87, .bin .add (.t 71) (.c (.int .i64 1)), none, []⟩,
    ⟨some 71, .move (.t 87), none, []⟩] .seq)))))))
  (.seq (.region [⟨some 88, .move (.t 14), none, []⟩,
    ⟨some 89, .move (.t 20), none, []⟩,
    ⟨some 90, .callF 66 [(.t 88), (.t 89)], none, []⟩,
    ⟨some 91, .callF 37 [(.t 90)], none, []⟩,
    ⟨some 8, .move (.t 91), none, []⟩,
    ⟨some 9, .move (.c (.int .i64 0)), none, []⟩] .seq)
  .ret)))))))))⟩
/-- anabranch/anabranchlaw13.works -/
def DF25 : AFunc := ⟨78, [.tmp 0], (.seq (.region [⟨some 0, .move (.c (.bool false)), none, []⟩] .seq)
  (.seq (.region [⟨some 10, .callF 32 [], none, []⟩,
    ⟨some 9, .move (.t 10), none, []⟩,
    ⟨some 11, .extract (.t 9) 0, none, []⟩,
    ⟨some 12, .extract (.t 9) 1, none, []⟩,
    ⟨some 13, .extract (.t 9) 2, none, []⟩,
    ⟨some 1, .alloc 55 [.sl0, .sl0, (.int .i64 0), (.int .i64 0)], none, []⟩,
    ⟨some 2, .alloc 57 [(.int .i64 0), (.int .i64 0), (.int .i64 0), (.int .i64 0), (.int .i64 0)], none, []⟩,
    ⟨none, .store 4 (.t 1) (.t 11), none, []⟩,
    ⟨none, .store 5 (.t 2) (.t 12), none, []⟩,
    ⟨some 3, .move (.t 13), none, []⟩] .seq)
  (.seq (.region [⟨some 15, .loadN 4 (.t 1), none, []⟩,
    ⟨some 16, .loadN 5 (.t 2), none, []⟩,
    ⟨some 17, .move (.t 3), none, []⟩,
    ⟨some 18, .callF 23 [(.t 15), (.t 16), (.c .sl0), (.t 17)], none, []⟩,
    ⟨some 14, .move (.t 18), none, []⟩,
    ⟨some 19, .extract (.t 14) 0, none, []⟩,
    ⟨some 20, .extract (.t 14) 1, none, []⟩,
    ⟨some 4, .move (.t 19), none, []⟩,
    ⟨some 5, .move (.t 20), none, []⟩] .seq)
  (.seq (.region [⟨some 22, .loadN 4 (.t 1), none, []⟩,
    ⟨some 23, .loadN 5 (.t 2), none, []⟩,
    ⟨some 24, .build [(.int .i64 0), (.int .i64 0), (.int .i64 0), (.int .i64 0)] [(0, 1, (.c (.int .i64 0))), (1, 1, (.c (.int .i64 3)))], none, []⟩,
    ⟨some 25, .build [(.int .i64 0), (.int .i64 0), .sl0, (.int .i64 0), (.int .i64 0), (.int .i64 0), (.int .i64 0), (.int .i64 0), (.int .i64 0), (.int .i64 0)] [(0, 1, (.c (.int .i64 3))), (1, 1, (.c (.int .i64 8))), (5, 4, (.t 24))], none, []⟩,
    ⟨some 26, .buildSlice 86 1 10 [(.int .i64 0), (.int .i64 0), .sl0, (.int .i64 0), (.int .i64 0), (.int .i64 0), (.int .i64 0), (.int .i64 0), (.int .i64 0), (.int .i64 0)] [(0, 10, (.t 25))], none, []⟩,
    ⟨some 27, .move (.t 3), none, []⟩,
    ⟨some 28, .callF 23 [(.t 22), (.t 23), (.t 26), (.t 27)], none, []⟩,
    ⟨some 21, .move (.t 28), none, []⟩,
    ⟨some 29, .extract (.t 21) 0, none, []⟩,
    ⟨some 30, .extract (.t 21) 1, none, []⟩,
    ⟨some 6, .move (.t 29), none, []⟩,
    ⟨some 7, .move (.t 30), none, []⟩] .seq)
  (.seq (.region [⟨some 31, .loadN 4 (.t 1), none, []⟩,
    ⟨some 32, .move (.t 4), none, []⟩,
    ⟨some 33, .callF 30 [(.t 31), (.t 32)], none, []⟩,
    ⟨some 8, .move (.t 33), none, []⟩] .seq)
  (.seq (.region [⟨some 34, .move (.t 5), none, []⟩,
    ⟨some 35, .bin .eql (.t 34) (.c (.int .i64 0)), none, []⟩,
    ⟨some 36, .move (.t 35), none, []⟩,
    ⟨some 37, .move (.t 7), some (36, true), []⟩,
    ⟨some 38, .bin .eql (.t 37) (.c (.int .i64 0)), some (36, true), []⟩,
    ⟨some 39, .pick (.t 36) (.t 38) (.c (.bool false)), none, []⟩,
    ⟨some 40, .move (.t 39), none, []⟩,
    ⟨some 41, .move (.t 4), some (40, true), []⟩,
    ⟨some 42, .build [(.int .u32 0), (.int .i64 0), (.int .i64 0), (.int .u8 0), (.bool false), (.bool false)] [(0, 1, (.c (.int .u32 1))), (1, 1, (.c (.int .i64 7))), (2, 1, (.c (.int .i64 1))), (5, 1, (.c (.bool true)))], some (40, true), []⟩,
    ⟨some 43, .build [(.int .u32 0), (.int .i64 0), (.int .i64 0), (.int .u8 0), (.bool false), (.bool false)] [(0, 1, (.c (.int .u32 1))), (1, 1, (.c (.int .i64 9))), (2, 1, (.c (.int .i64 18)))], some (40, true), []⟩,
    ⟨some 44, .build [(.int .u32 0), (.int .i64 0), (.int .i64 0), (.int .u8 0), (.bool false), (.bool false)] [(0, 1, (.c (.int .u32 2))), (1, 1, (.c (.int .i64 15))), (2, 1, (.c (.int .i64 1))), (5, 1, (.c (.bool true)))], some (40, true), []⟩,
    ⟨some 45, .build [(.int .u32 0), (.int .i64 0), (.int .i64 0), (.int .u8 0), (.bool false), (.bool false)] [(0, 1, (.c (.int .u32 2))), (1, 1, (.c (.int .i64 19))), (2, 1, (.c (.int .i64 14)))], some (40, true), []⟩,
    ⟨some 46, .buildSlice 43 4 6 [(.int .u32 0), (.int .i64 0), (.int .i64 0), (.int .u8 0), (.bool false), (.bool false), (.int .u32 0), (.int .i64 0), (.int .i64 0), (.int .u8 0), (.bool false), (.bool false), (.int .u32 0), (.int .i64 0), (.int .i64 0), (.int .u8 0), (.bool false), (.bool false), (.int .u32 0), (.int .i64 0), (.int .i64 0), (.int .u8 0), (.bool false), (.bool false)] [(0, 6, (.t 42)), (6, 6, (.t 43)), (12, 6, (.t 44)), (18, 6, (.t 45))], some (40, true), []⟩,
    ⟨some 47, .callF 27 [(.t 41), (.t 46)], some (40, true), []⟩,
    ⟨some 48, .pick (.t 40) (.t 47) (.c (.bool false)), none, []⟩,
    ⟨some 49, .move (.t 48), none, []⟩,
    ⟨some 50, .move (.t 6), some (49, true), []⟩,
    ⟨some 51, .build [(.int .u32 0), (.int .i64 0), (.int .i64 0), (.int .u8 0), (.bool false), (.bool false)] [(0, 1, (.c (.int .u32 1))), (1, 1, (.c (.int .i64 7))), (2, 1, (.c (.int .i64 1))), (5, 1, (.c (.bool true)))], some (49, true), []⟩,
    ⟨some 52, .build [(.int .u32 0), (.int .i64 0), (.int .i64 0), (.int .u8 0), (.bool false), (.bool false)] [(0, 1, (.c (.int .u32 1))), (1, 1, (.c (.int .i64 9))), (2, 1, (.c (.int .i64 23)))], some (49, true), []⟩,
    ⟨some 53, .build [(.int .u32 0), (.int .i64 0), (.int .i64 0), (.int .u8 0), (.bool false), (.bool false)] [(0, 1, (.c (.int .u32 2))), (1, 1, (.c (.int .i64 15))), (2, 1, (.c (.int .i64 1))), (5, 1, (.c (.bool true)))], some (49, true), []⟩,
    ⟨some 54, .build [(.int .u32 0), (.int .i64 0), (.int .i64 0), (.int .u8 0), (.bool false), (.bool false)] [(0, 1, (.c (.int .u32 2))), (1, 1, (.c (.int .i64 19))), (2, 1, (.c (.int .i64 21)))], some (49, true), []⟩,
    ⟨some 55, .buildSlice 43 4 6 [(.int .u32 0), (.int .i64 0), (.int .i64 0), (.int .u8 0), (.bool false), (.bool false), (.int .u32 0), (.int .i64 0), (.int .i64 0), (.int .u8 0), (.bool false), (.bool false), (.int .u32 0), (.int .i64 0), (.int .i64 0), (.int .u8 0), (.bool false), (.bool false), (.int .u32 0), (.int .i64 0), (.int .i64 0), (.int .u8 0), (.bool false), (.bool false)] [(0, 6, (.t 51)), (6, 6, (.t 52)), (12, 6, (.t 53)), (18, 6, (.t 54))], some (49, true), []⟩,
    ⟨some 56, .callF 27 [(.t 50), (.t 55)], some (49, true), []⟩,
    ⟨some 57, .pick (.t 49) (.t 56) (.c (.bool false)), none, []⟩,
    ⟨some 58, .move (.t 57), none, []⟩,
    ⟨some 59, .move (.t 8), some (58, true), []⟩,
    ⟨some 60, .len .sl (.t 59), some (58, true), []⟩,
    ⟨some 61, .bin .eql (.t 60) (.c (.int .i64 1)), some (58, true), []⟩,
    ⟨some 62, .pick (.t 58) (.t 61) (.c (.bool false)), none, []⟩,
    ⟨some 63, .move (.t 62), none, []⟩,
    ⟨some 64, .move (.t 8), some (63, true), []⟩,
    ⟨some 65, .indexAddrS 2 (.t 64) (.c (.int .i64 0)), some (63, true), []⟩,
    ⟨some 66, .fieldAddr 0 (.t 65), some (63, true), []⟩,
    ⟨some 67, .load1 (.t 66), some (63, true), []⟩,
    ⟨some 68, .bin .eql (.t 67) (.c (.int .i64 0)), some (63, true), []⟩,
    ⟨some 69, .pick (.t 63) (.t 68) (.c (.bool false)), none, []⟩,
    ⟨some 70, .move (.t 69), none, []⟩,
    ⟨some 71, .move (.t 8), some (70, true), []⟩,
    ⟨some 72, .indexAddrS 2 (.t 71) (.c (.int .i64 0)), some (70, true), []⟩,
    ⟨some 73, .fieldAddr 1 (.t 72), some (70, true), []⟩,
    ⟨some 74, .load1 (.t 73), some (70, true), []⟩,
    ⟨some 75, .len .sl (.t 74), some (70, true), []⟩,
    ⟨some 76, .bin .eql (.t 75) (.c (.int .i64 4)), some (70, true), []⟩,
    ⟨some 77, .pick (.t 70) (.t 76) (.c (.bool false)), none, []⟩,
    ⟨some 0, .move (.t 77), none, []⟩] .seq)
  .ret))))))⟩
/-- anabranch/anabranchlaw13.same -/
def DF27 : AFunc := ⟨26, [.tmp 4], (.seq (.region [⟨some 4, .move (.c (.bool false)), none, []⟩] .seq)
  (.seq (.seq (.region [⟨some 6, .move (.t 0), none, []⟩,
    ⟨some 7, .len .sl (.t 6), none, []⟩,
    ⟨some 8, .move (.t 1), none, []⟩,
    ⟨some 9, .len .sl (.t 8), none, []⟩,
    ⟨some 10, .bin .neq (.t 7) (.t 9), none, []⟩] .seq)
  (.cond (.t 10) (.seq (.region [⟨some 4, .move (.c (.bool false)), none, []⟩] .seq)
  .ret)
  .skip))
  (.seq (.seq (.region [⟨some 5, .move (.c (.int .i64 0)), none, []⟩] .seq)
  (.block 0 (.loop (.seq (.seq (.region [⟨some 11, .move (.t 5), none, []⟩,
    ⟨some 12, .move (.t 0), none, []⟩,
    ⟨some 13, .len .sl (.t 12), none, []⟩,
    ⟨some 14, .bin .lss (.t 11) (.t 13), none, []⟩] .seq)
  (.cond (.t 14) .skip
  (.exit 0)))
  (.seq (.block 1 (.seq (.region [⟨some 17, .move (.t 0), none, []⟩,
    ⟨some 18, .move (.t 5), none, []⟩,
    ⟨some 19, .indexAddrS 6 (.t 17) (.t 18), none, []⟩,
    ⟨some 20, .loadN 6 (.t 19), none, [9]⟩,
    ⟨some 21, .move (.t 1), none, []⟩,
    ⟨some 22, .move (.t 5), none, []⟩,
    ⟨some 23, .indexAddrS 6 (.t 21) (.t 22), none, []⟩,
    ⟨some 24, .loadN 6 (.t 23), none, [9]⟩,
    ⟨some 25, .eqs [.i, .i, .i, .i, .b, .b] true (.t 20) (.t 24), none, []⟩] .sink)
  (.cond (.t 25) (.seq (.region [⟨some 4, .move (.c (.bool false)), none, []⟩] .seq)
  .ret)
  .skip)))
  (.region [⟨some 15, .move (.t 5), none, []⟩,
    ⟨some 16, .bin .add (.t 15) (.c (.int .i64 1)), none, []⟩,
    ⟨some 5, .move (.t 16), none, []⟩] .seq))))))
  (.seq (.region [⟨some 4, .move (.c (.bool true)), none, []⟩] .seq)
  .ret))))⟩
/-- anabranch/denot.Epochs -/
def DF30 : AFunc := ⟨61, [.tmp 4], (.seq (.region [⟨some 2, .box 55 (.t 0), none, []⟩,
    ⟨some 4, .move (.c .sl0), none, []⟩] .seq)
  (.seq (.seq (.region [⟨some 10, .fieldAddr 3 (.t 2), none, []⟩,
    ⟨some 11, .load1 (.t 10), none, []⟩,
    ⟨some 12, .bin .lss (.t 11) (.c (.int .i64 1)), none, []⟩] .seq)
  (.cond (.t 12) (.seq (.region [⟨some 4, .move (.c .sl0), none, []⟩] .seq)
  .ret)
  .skip))
  (.seq (.seq (.region [⟨some 13, .move (.t 1), none, []⟩,
    ⟨some 14, .callF 37 [(.t 13)], none, []⟩,
    ⟨some 15, .len .sl (.t 14), none, []⟩,
    ⟨some 16, .move (.c (.int .i64 0)), none, []⟩] .seq)
  (.block 0 (.loop (.seq (.region [⟨some 17, .bin .lss (.t 16) (.t 15), none, []⟩] .seq)
  (.seq (.cond (.t 17) .skip
  (.exit 0))
  (.seq (.block 1 (.seq (.region [⟨some 18, .indexAddrS 6 (.t 14) (.t 16), none, []⟩,
    ⟨some 19, .loadN 6 (.t 18), none, []⟩,
    ⟨some 6, .alloc 43 [(.int .u32 0), (.int .i64 0), (.int .i64 0), (.int .u8 0), (.bool false), (.bool false)], none, []⟩,
    ⟨none, .store 6 (.t 6) (.t 19), none, []⟩] .seq)
  (.seq (.region [⟨some 20, .fieldAddr 1 (.t 6), none, []⟩,
    ⟨some 21, .load1 (.t 20), none, []⟩,
    ⟨some 22, .fieldAddr 3 (.t 2), none, []⟩,
    ⟨some 23, .load1 (.t 22), none, []⟩,
    ⟨some 24, .bin .quo (.t 21) (.t 23), none, []⟩,
    ⟨some 7, .move (.t 24), none, []⟩] .seq)
  (.seq (.seq (.region [⟨some 25, .move (.t 4), none, []⟩,
    ⟨some 26, .len .sl (.t 25), none, []⟩,
    ⟨some 8, .move (.t 26), none, []⟩] .seq)
  (.seq (.region [⟨some 27, .move (.t 8), none, []⟩,
    ⟨some 28, .bin .eql (.t 27) (.c (.int .i64 0)), none, []⟩,
    ⟨some 29, .move (.t 28), none, []⟩,
    ⟨some 30, .move (.t 4), some (29, false), []⟩,
    ⟨some 31, .move (.t 8), some (29, false), []⟩,
    ⟨some 32, .bin .sub (.t 31) (.c (.int .i64 1)), some (29, false), []⟩,
    ⟨some 33, .indexAddrS 2 (.t 30) (.t 32), some (29, false), []⟩,
    ⟨some 34, .fieldAddr 0 (.t 33), some (29, false), []⟩,
    ⟨some 35, .load1 (.t 34), some (29, false), []⟩,
    ⟨some 36, .move (.t 7), some (29, false), []⟩,
    ⟨some 37, .bin .neq (.t 35) (.t 36), some (29, false), []⟩,
    ⟨some 38, .pick (.t 29) (.c (.bool true)) (.t 37), none, []⟩] .seq)
  (.cond (.t 38) (.region [⟨some 39, .move (.t 4), none, []⟩,
    ⟨some 40, .move (.t 7), none, []⟩,
    ⟨some 41, .build [(.int .i64 0), .sl0] [(0, 1, (.t 40))], none, []⟩,
    ⟨some 42, .buildSlice 79 1 2 [(.int .i64 0), .sl0] [(0, 2, (.t 41))], none, []⟩,
    ⟨some 43, .append 79 2 32 [(.int .i64 0), .sl0] (.t 39) (.t 42), none, []⟩,
    ⟨some 4, .move (.t 43), none, []⟩] .seq)
  .skip)))
  (.seq (.region [⟨some 44, .move (.t 4), none, []⟩,
    ⟨some 45, .move (.t 4), none, []⟩,
    ⟨some 46, .len .sl (.t 45), none, []⟩,
    ⟨some 47, .bin .sub (.t 46) (.c (.int .i64 1)), none, []⟩,
    ⟨some 48, .indexAddrS 2 (.t 44) (.t 47), none, []⟩,
    ⟨some 9, .move (.t 48), none, []⟩] .seq)
  (.region [⟨some 49, .move (.t 9), none, []⟩,
    ⟨some 50, .move (.t 9), none, []⟩,
    ⟨some 51, .nilCheck (.t 50), none, []⟩,
    ⟨some 52, .fieldAddr 1 (.t 51), none, []⟩,
    ⟨some 53, .load1 (.t 52), none, [7]⟩,
    ⟨some 54, .loadN 6 (.t 6), none, [7]⟩,
    ⟨some 55, .buildSlice 43 1 6 [(.int .u32 0), (.int .i64 0), (.int .i64 0), (.int .u8 0), (.bool false), (.bool false)] [(0, 6, (.t 54))], none, []⟩,
    ⟨some 56, .append 43 6 32 [(.int .u32 0), (.int .i64 0), (.int .i64 0), (.int .u8 0), (.bool false), (.bool false)] (.t 53) (.t 55), none, []⟩,
    ⟨some 57, .nilCheck (.t 49), none, []⟩,
    ⟨some 58, .fieldAddr 1 (.t 57), none, []⟩,
    ⟨none, .store 1 (.t 58) (.t 56), none, []⟩] .sink))))))
  (.region [⟨some 59, .bin .add (.t 16) (.c (.int .i64 1)), none, []⟩,
    ⟨some 16, .move (.t 59), none, []⟩] .seq)))))))
  (.seq (.region [⟨some 60, .move (.t 4), none, []⟩,
    ⟨some 4, .move (.t 60), none, []⟩] .seq)
  .ret))))⟩
/-- anabranch/anabranchlaw13.example -/
def DF32 : AFunc := ⟨21, [.cellN 0 4, .cellN 1 5, .tmp 2], (.seq (.region [⟨some 0, .alloc 55 [.sl0, .sl0, (.int .i64 0), (.int .i64 0)], none, []⟩,
    ⟨some 1, .alloc 57 [(.int .i64 0), (.int .i64 0), (.int .i64 0), (.int .i64 0), (.int .i64 0)], none, []⟩,
    ⟨some 2, .move (.c .sl0), none, []⟩] .seq)
  (.seq (.region [⟨some 4, .build [(.int .i64 0), (.int .i64 0), (.int .i64 0), (.int .i64 0)] [(0, 1, (.c (.int .i64 0))), (1, 1, (.c (.int .i64 2)))], none, []⟩,
    ⟨some 5, .buildSlice 84 1 4 [(.int .i64 0), (.int .i64 0), (.int .i64 0), (.int .i64 0)] [(0, 4, (.t 4))], none, []⟩,
    ⟨some 6, .build [(.int .i64 0), (.int .i64 0), (.int .i64 0), (.int .i64 0)] [(0, 1, (.c (.int .i64 4))), (1, 1, (.c (.int .i64 10))), (3, 1, (.c (.int .i64 1)))], none, []⟩,
    ⟨some 7, .build [(.int .i64 0), (.int .i64 0), (.int .i64 0), (.int .i64 0), .sl0] [(0, 4, (.t 6))], none, []⟩,
    ⟨some 8, .buildSlice 95 1 5 [(.int .i64 0), (.int .i64 0), (.int .i64 0), (.int .i64 0), .sl0] [(0, 5, (.t 7))], none, []⟩,
    ⟨some 9, .build [.sl0, .sl0, (.int .i64 0), (.int .i64 0)] [(0, 1, (.t 5)), (1, 1, (.t 8)), (2, 1, (.c (.int .i64 5))), (3, 1, (.c (.int .i64 20)))], none, []⟩,
    ⟨some 3, .alloc 55 [.sl0, .sl0, (.int .i64 0), (.int .i64 0)], none, []⟩,
    ⟨none, .store 4 (.t 3) (.t 9), none, []⟩] .seq)
  (.seq (.region [⟨some 10, .loadN 4 (.t 3), none, [2, 3, 4, 5, 6, 7, 8, 11]⟩,
    ⟨some 11, .build [(.int .i64 0), (.int .i64 0), (.int .i64 0), (.int .i64 0), (.int .i64 0)] [(0, 1, (.c (.int .i64 1))), (1, 1, (.c (.int .i64 1))), (2, 1, (.c (.int .i64 1))), (3, 1, (.c (.int .i64 1))), (4, 1, (.c (.int .i64 4)))], none, []⟩,
    ⟨some 12, .callF 33 [(.c (.int .u32 1)), (.c (.int .i64 3)), (.c (.int .i64 4))], none, []⟩,
    ⟨some 13, .callF 33 [(.c (.int .u32 1)), (.c (.int .i64 8)), (.c (.int .i64 5))], none, []⟩,
    ⟨some 14, .callF 34 [(.c (.int .i64 12))], none, []⟩,
    ⟨some 15, .callF 33 [(.c (.int .u32 1)), (.c (.int .i64 6)), (.c (.int .i64 1))], none, []⟩,
    ⟨some 16, .callF 33 [(.c (.int .u32 2)), (.c (.int .i64 11)), (.c (.int .i64 7))], none, []⟩,
    ⟨some 17, .callF 34 [(.c (.int .i64 20))], none, []⟩,
    ⟨some 18, .callF 33 [(.c (.int .u32 2)), (.c (.int .i64 9)), (.c (.int .i64 1))], none, []⟩,
    ⟨some 19, .buildSlice 89 7 8 [(.bool false), (.int .i64 0), (.int .u32 0), (.int .i64 0), (.int .i64 0), (.int .u8 0), (.bool false), (.bool false), (.bool false), (.int .i64 0), (.int .u32 0), (.int .i64 0), (.int .i64 0), (.int .u8 0), (.bool false), (.bool false), (.bool false), (.int .i64 0), (.int .u32 0), (.int .i64 0), (.int .i64 0), (.int .u8 0), (.bool false), (.bool false), (.bool false), (.int .i64 0), (.int .u32 0), (.int .i64 0), (.int .i64 0), (.int .u8 0), (.bool false), (.bool false), (.bool false), (.int .i64 0), (.int .u32 0), (.int .i64 0), (.int .i64 0), (.int .u8 0), (.bool false), (.bool false), (.bool false), (.int .i64 0), (.int .u32 0), (.int .i64 0), (.int .i64 0), (.int .u8 0), (.bool false), (.bool false), (.bool false), (.int .i64 0), (.int .u32 0), (.int .i64 0), (.int .i64 0), (.int .u8 0), (.bool false), (.bool false)] [(0, 8, (.t 12)), (8, 8, (.t 13)), (16, 8, (.t 14)), (24, 8, (.t 15)), (32, 8, (.t 16)), (40, 8, (.t 17)), (48, 8, (.t 18))], none, []⟩,
    ⟨some 20, .buildSlice 87 1 1 [.sl0] [(0, 1, (.t 19))], none, []⟩,
    ⟨none, .store 4 (.t 0) (.t 10), none, []⟩,
    ⟨none, .store 5 (.t 1) (.t 11), none, []⟩,
    ⟨some 2, .move (.t 20), none, []⟩] .sink)
  .ret)))⟩
/-- anabranch/anabranchlaw13.rec -/
def DF33 : AFunc := ⟨12, [.cellN 6 8], (.seq (.region [⟨some 6, .alloc 89 [(.bool false), (.int .i64 0), (.int .u32 0), (.int .i64 0), (.int .i64 0), (.int .u8 0), (.bool false), (.bool false)], none, []⟩] .seq)
  (.seq (.region [⟨some 7, .move (.t 0), none, []⟩,
    ⟨some 8, .move (.t 1), none, []⟩,
    ⟨some 9, .move (.t 2), none, []⟩,
    ⟨some 10, .build [(.int .u32 0), (.int .i64 0), (.int .i64 0), (.int .u8 0), (.bool false), (.bool false)] [(0, 1, (.t 7)), (1, 1, (.t 8)), (2, 1, (.t 9))], none, []⟩,
    ⟨some 11, .build [(.bool false), (.int .i64 0), (.int .u32 0), (.int .i64 0), (.int .i64 0), (.int .u8 0), (.bool false), (.bool false)] [(2, 6, (.t 10))], none, []⟩,
    ⟨none, .store 8 (.t 6) (.t 11), none, []⟩] .seq)
  .ret))⟩
/-- anabranch/anabranchlaw13.mark -/
def DF34 : AFunc := ⟨5, [.cellN 2 8], (.seq (.region [⟨some 2, .alloc 89 [(.bool false), (.int .i64 0), (.int .u32 0), (.int .i64 0), (.int .i64 0), (.int .u8 0), (.bool false), (.bool false)], none, []⟩] .seq)
  (.seq (.region [⟨some 3, .move (.t 0), none, []⟩,
    ⟨some 4, .build [(.bool false), (.int .i64 0), (.int .u32 0), (.int .i64 0), (.int .i64 0), (.int .u8 0), (.bool false), (.bool false)] [(0, 1, (.c (.bool true))), (1, 1, (.t 3))], none, []⟩,
    ⟨none, .store 8 (.t 2) (.t 4), none, []⟩] .seq)
  .ret))⟩
/-- anabranch/denot.Sort -/
def DF37 : AFunc := ⟨5, [.tmp 2], (.seq (.region [⟨some 2, .move (.c .sl0), none, []⟩] .seq)
  (.seq (.region [⟨some 3, .move (.t 0), none, []⟩,
    ⟨some 4, .callF 75 [(.t 3), (.c (.fn 74 [] []))], none, []⟩,
    ⟨some 2, .move (.t 4), none, []⟩] .seq)
  .ret))⟩
/-- cmp.Compare[int64] -/
def DF41 : AFunc := ⟨20, [.tmp 4], (.seq (.region [⟨some 4, .move (.c (.int .i64 0)), none, []⟩] .seq)
  (.seq (.region [⟨some 7, .move (.t 0), none, []⟩,
    ⟨some 8, .callF 78 [(.t 7)], none, []⟩,
    ⟨some 5, .move (.t 8), none, []⟩] .seq)
  (.seq (.region [⟨some 9, .move (.t 1), none, []⟩,
    ⟨some 10, .callF 78 [(.t 9)], none, []⟩,
    ⟨some 6, .move (.t 10), none, []⟩] .seq)
  (.seq (.seq (.region [⟨some 11, .move (.t 5), none, []⟩] .seq)
  (.cond (.t 11) (.seq (.seq (.region [⟨some 12, .move (.t 6), none, []⟩] .seq)
  (.cond (.t 12) (.seq (.region [⟨some 4, .move (.c (.int .i64 0)), none, []⟩] .seq)
  .ret)
  .skip))
  (.seq (.region [⟨some 4, .move (.c (.int .i64 (-1))), none, []⟩] .seq)
  .ret))
  .skip))
  (.seq (.seq (.region [⟨some 13, .move (.t 6), none, []⟩] .seq)
  (.cond (.t 13) (.seq (.region [⟨some 4, .move (.c (.int .i64 1)), none, []⟩] .seq)
  .ret)
  .skip))
  (.seq (.seq (.region [⟨some 14, .move (.t 0), none, []⟩,
    ⟨some 15, .move (.t 1), none, []⟩,
    ⟨some 16, .bin .lss (.t 14) (.t 15), none, []⟩] .seq)
  (.cond (.t 16) (.seq (.region [⟨some 4, .move (.c (.int .i64 (-1))), none, []⟩] .seq)
  .ret)
  .skip))
  (.seq (.seq (.region [⟨some 17, .move (.t 0), none, []⟩,
    ⟨some 18, .move (.t 1), none, []⟩,
    ⟨some 19, .bin .gtr (.t 17) (.t 18), none, []⟩] .seq)
  (.cond (.t 19) (.seq (.region [⟨some 4, .move (.c (.int .i64 1)), none, []⟩] .seq)
  .ret)
  .skip))
  (.seq (.region [⟨some 4, .move (.c (.int .i64 0)), none, []⟩] .seq)
  .ret))))))))⟩
/-- (*anabranch/table.Table).Op -/
def DF45 : AFunc := ⟨44, [.cellN 6 4, .tmp 7], (.seq (.region [⟨some 6, .alloc 84 [(.int .i64 0), (.int .i64 0), (.int .i64 0), (.int .i64 0)], none, []⟩,
    ⟨some 7, .move (.c (.bool false)), none, []⟩] .seq)
  (.seq (.seq (.region [⟨some 10, .move (.t 0), none, []⟩,
    ⟨some 11, .isNil .p false (.t 10) (.c .ptr0), none, []⟩,
    ⟨some 12, .move (.t 11), none, []⟩,
    ⟨some 13, .move (.t 1), some (12, false), []⟩,
    ⟨some 14, .move (.t 0), some (12, false), []⟩,
    ⟨some 15, .nilCheck (.t 14), some (12, false), []⟩,
    ⟨some 16, .fieldAddr 19 (.t 15), some (12, false), []⟩,
    ⟨some 17, .load1 (.t 16), some (12, false), []⟩,
    ⟨some 18, .len .sl (.t 17), some (12, false), []⟩,
    ⟨some 19, .bin .sub (.t 18) (.c (.int .i64 1)), some (12, false), []⟩,
    ⟨some 20, .callF 86 [(.t 13), (.c (.int .i64 0)), (.t 19)], some (12, false), []⟩,
    ⟨some 21, .un .not (.t 20), some (12, false), []⟩,
    ⟨some 22, .pick (.t 12) (.c (.bool true)) (.t 21), none, []⟩] .seq)
  (.cond (.t 22) (.seq (.region [⟨some 23, .build [(.int .i64 0), (.int .i64 0), (.int .i64 0), (.int .i64 0)] [], none, []⟩,
    ⟨none, .store 4 (.t 6) (.t 23), none, []⟩,
    ⟨some 7, .move (.c (.bool false)), none, []⟩] .seq)
  .ret)
  .skip))
  (.seq (.seq (.region [⟨some 24, .move (.t 2), none, []⟩,
    ⟨some 25, .bin .eql (.t 24) (.c (.int .i64 0)), none, []⟩] .seq)
  (.cond (.t 25) (.seq (.region [⟨some 26, .move (.t 0), none, []⟩,
    ⟨some 27, .nilCheck (.t 26), none, []⟩,
    ⟨some 28, .fieldAddr 19 (.t 27), none, []⟩,
    ⟨some 29, .load1 (.t 28), none, []⟩,
    ⟨some 30, .move (.t 1), none, []⟩,
    ⟨some 31, .indexAddrS 4 (.t 29) (.t 30), none, []⟩,
    ⟨some 32, .loadN 4 (.t 31), none, []⟩,
    ⟨none, .store 4 (.t 6) (.t 32), none, []⟩,
    ⟨some 7, .move (.c (.bool true)), none, []⟩] .seq)
  .ret)
  .skip))
  (.seq (.region [⟨some 34, .move (.t 0), none, []⟩,
    ⟨some 35, .move (.t 1), none, []⟩,
    ⟨some 36, .move (.t 2), none, []⟩,
    ⟨some 37, .bin .sub (.t 36) (.c (.int .i64 1)), none, []⟩,
    ⟨some 38, .callF 76 [(.t 34), (.t 35), (.t 37)], none, []⟩,
    ⟨some 33, .move (.t 38), none, []⟩,
    ⟨some 39, .extract (.t 33) 0, none, []⟩,
    ⟨some 40, .extract (.t 33) 1, none, []⟩,
    ⟨some 8, .alloc 86 [(.int .i64 0), (.int .i64 0), .sl0, (.int .i64 0), (.int .i64 0), (.int .i64 0), (.int .i64 0), (.int .i64 0), (.int .i64 0), (.int .i64 0)], none, []⟩,
    ⟨none, .store 10 (.t 8) (.t 39), none, []⟩,
    ⟨some 9, .move (.t 40), none, []⟩] .seq)
  (.seq (.region [⟨some 41, .fieldAddr 5 (.t 8), none, []⟩,
    ⟨some 42, .loadN 4 (.t 41), none, []⟩,
    ⟨some 43, .move (.t 9), none, []⟩,
    ⟨none, .store 4 (.t 6) (.t 42), none, []⟩,
    ⟨some 7, .move (.t 43), none, []⟩] .seq)
  .ret)))))⟩
/-- anabranch/acc.Result -/
def DF46 : AFunc := ⟨19, [.tmp 4, .tmp 5], (.seq (.region [⟨some 2, .box 26 (.t 0), none, []⟩,
    ⟨some 4, .move (.c (.int .i64 0)), none, []⟩,
    ⟨some 5, .move (.c (.bool false)), none, []⟩] .seq)
  (.seq (.seq (.region [⟨some 6, .move (.t 1), none, []⟩,
    ⟨some 7, .bin .lss (.t 6) (.c (.int .i64 0)), none, []⟩,
    ⟨some 8, .move (.t 7), none, []⟩,
    ⟨some 9, .move (.t 1), some (8, false), []⟩,
    ⟨some 10, .bin .gtr (.t 9) (.c (.int .i64 3)), some (8, false), []⟩,
    ⟨some 11, .pick (.t 8) (.c (.bool true)) (.t 10), none, []⟩] .seq)
  (.cond (.t 11) (.seq (.region [⟨some 4, .move (.c (.int .i64 0)), none, []⟩,
    ⟨some 5, .move (.c (.bool false)), none, []⟩] .seq)
  .ret)
  .skip))
  (.seq (.region [⟨some 12, .callF 87 [], none, []⟩,
    ⟨some 13, .move (.t 1), none, []⟩,
    ⟨some 14, .index 4 1 false (.t 12) (.t 13), none, []⟩,
    ⟨some 15, .loadN 5 (.t 2), none, [0, 4]⟩,
    ⟨some 16, .callV (.t 14) [(.t 15)], none, []⟩,
    ⟨some 17, .extract (.t 16) 0, none, []⟩,
    ⟨some 18, .extract (.t 16) 1, none, []⟩,
    ⟨some 4, .move (.t 17), none, []⟩,
    ⟨some 5, .move (.t 18), none, []⟩] .sink)
  .ret)))⟩
/-- anabranch/table.New -/
def DF48 : AFunc := ⟨73, [.tmp 4, .tmp 5], (.seq (.region [⟨some 2, .box 55 (.t 0), none, []⟩,
    ⟨some 3, .box 57 (.t 1), none, []⟩,
    ⟨some 4, .move (.c .ptr0), none, []⟩,
    ⟨some 5, .move (.c (.int .i64 0)), none, []⟩] .seq)
  (.seq (.seq (.region [⟨some 13, .loadN 4 (.t 2), none, []⟩,
    ⟨some 14, .callF 88 [(.t 13)], none, []⟩,
    ⟨some 12, .move (.t 14), none, []⟩,
    ⟨some 15, .extract (.t 12) 0, none, []⟩,
    ⟨some 16, .extract (.t 12) 1, none, []⟩,
    ⟨some 6, .move (.t 15), none, []⟩,
    ⟨some 7, .move (.t 16), none, []⟩] .seq)
  (.seq (.region [⟨some 17, .move (.t 7), none, []⟩,
    ⟨some 18, .bin .neq (.t 17) (.c (.int .i64 0)), none, []⟩] .seq)
  (.cond (.t 18) (.seq (.region [⟨some 19, .move (.t 7), none, []⟩,
    ⟨some 4, .move (.c .ptr0), none, []⟩,
    ⟨some 5, .move (.t 19), none, []⟩] .seq)
  .ret)
  .skip)))
  (.seq (.seq (.region [⟨some 20, .loadN 5 (.t 3), none, []⟩,
    ⟨some 21, .callF 89 [(.t 20)], none, []⟩,
    ⟨some 22, .un .not (.t 21), none, []⟩] .seq)
  (.cond (.t 22) (.seq (.region [⟨some 4, .move (.c .ptr0), none, []⟩,
    ⟨some 5, .move (.c (.int .i64 2)), none, []⟩] .seq)
  .ret)
  .skip))
  (.seq (.region [⟨some 23, .loadN 4 (.t 2), none, [1]⟩,
    ⟨some 24, .callF 90 [(.t 23)], none, []⟩,
    ⟨some 25, .loadN 5 (.t 3), none, [1, 5, 9]⟩,
    ⟨some 26, .build [.sl0, .sl0, (.int .i64 0), (.int .i64 0), (.int .i64 0), (.int .i64 0), (.int .i64 0), (.int .i64 0), (.int .i64 0)] [(0, 4, (.t 24)), (4, 5, (.t 25))], none, []⟩,
    ⟨some 27, .loadN 4 (.t 2), none, [1, 5]⟩,
    ⟨some 28, .callF 91 [(.t 27)], none, []⟩,
    ⟨some 29, .build [.sl0, .sl0, (.int .i64 0), (.int .i64 0), (.int .i64 0), (.int .i64 0), (.int .i64 0), (.int .i64 0), (.int .i64 0), .sl0, .sl0, .sl0, .sl0, .sl0, .sl0, .sl0, .sl0, .sl0, .sl0, .sl0, .sl0] [(0, 9, (.t 26)), (19, 1, (.t 28))], none, []⟩,
    ⟨some 30, .box 170 (.t 29), none, []⟩,
    ⟨some 8, .move (.t 30), none, []⟩] .sink)
  (.seq (.region [⟨some 31, .move (.t 8), none, []⟩,
    ⟨some 32, .move (.t 8), none, []⟩,
    ⟨some 33, .nilCheck (.t 32), none, []⟩,
    ⟨some 34, .fieldAddr 19 (.t 33), none, []⟩,
    ⟨some 35, .load1 (.t 34), none, []⟩,
    ⟨some 36, .len .sl (.t 35), none, []⟩,
    ⟨some 37, .mkSlice 69 1 24 [.sl0] (.t 36) (.t 36), none, []⟩,
    ⟨some 38, .nilCheck (.t 31), none, []⟩,
    ⟨some 39, .fieldAddr 20 (.t 38), none, []⟩,
    ⟨none, .store 1 (.t 39) (.t 37), none, []⟩] .seq)
  (.seq (.seq (.region [⟨some 9, .move (.c (.int .i64 1)), none, []⟩] .seq)
  (.block 0 (.loop (.seq (.seq (.region [⟨some 40, .move (.t 9), none, []⟩,
    ⟨some 41, .fieldAddr 1 (.t 3), none, []⟩,
    ⟨some 42, .load1 (.t 41), none, []⟩,
    ⟨some 43, .bin .leq (.t 40) (.t 42), none, []⟩] .seq)
  (.cond (.t 43) .skip
  (.exit 0)))
  (.seq (.block 1 (.region [⟨some 46, .move (.t 8), none, []⟩,
    ⟨some 47, .move (.t 8), none, []⟩,
    ⟨some 48, .nilCheck (.t 47), none, []⟩,
    ⟨some 49, .fieldAddr 18 (.t 48), none, []⟩,
    ⟨some 50, .load1 (.t 49), none, []⟩,
    ⟨some 51, .move (.t 9), none, []⟩,
    ⟨some 52, .buildSlice 3 1 1 [(.int .i64 0)] [(0, 1, (.t 51))], none, []⟩,
    ⟨some 53, .append 3 1 8 [(.int .i64 0)] (.t 50) (.t 52), none, []⟩,
    ⟨some 54, .nilCheck (.t 46), none, []⟩,
    ⟨some 55, .fieldAddr 18 (.t 54), none, []⟩,
    ⟨none, .store 1 (.t 55) (.t 53), none, []⟩] .seq))
  (.region [⟨some 44, .move (.t 9), none, []⟩,
    ⟨some 45, .bin .add (.t 44) (.c (.int .i64 1)), none, []⟩,
    ⟨some 9, .move (.t 45), none, []⟩] .seq))))))
  (.seq (.seq (.region [⟨some 56, .fieldAddr 1 (.t 3), none, []⟩,
    ⟨some 57, .load1 (.t 56), none, []⟩,
    ⟨some 58, .callF 92 [(.t 57)], none, []⟩,
    ⟨some 59, .move (.c (.int .i64 0)), none, []⟩] .seq)
  (.block 2 (.loop (.seq (.region [⟨some 60, .bin .lss (.t 59) (.c (.int .i64 8)), none, []⟩] .seq)
  (.seq (.cond (.t 60) .skip
  (.exit 2))
  (.seq (.block 3 (.seq (.region [⟨some 61, .move (.t 59), none, []⟩,
    ⟨some 62, .index 8 1 false (.t 58) (.t 59), none, []⟩,
    ⟨some 10, .move (.t 61), none, []⟩,
    ⟨some 11, .move (.t 62), none, []⟩] .seq)
  (.region [⟨some 63, .move (.t 8), none, []⟩,
    ⟨some 64, .move (.t 10), none, []⟩,
    ⟨some 65, .move (.t 11), none, []⟩,
    ⟨some 66, .build [(.int .i64 0), (.int .i64 0)] [(1, 1, (.t 65))], none, []⟩,
    ⟨some 67, .buildSlice 178 1 2 [(.int .i64 0), (.int .i64 0)] [(0, 2, (.t 66))], none, []⟩,
    ⟨some 68, .nilCheck (.t 63), none, []⟩,
    ⟨some 69, .fieldAddr 10 (.t 68), none, []⟩,
    ⟨some 70, .indexAddrA 8 1 (.t 69) (.t 64), none, []⟩,
    ⟨none, .store 1 (.t 70) (.t 67), none, []⟩] .seq)))
  (.region [⟨some 71, .bin .add (.t 59) (.c (.int .i64 1)), none, []⟩,
    ⟨some 59, .move (.t 71), none, []⟩] .seq)))))))
  (.seq (.region [⟨some 72, .move (.t 8), none, []⟩,
    ⟨some 4, .move (.t 72), none, []⟩,
    ⟨some 5, .move (.c (.int .i64 0)), none, []⟩] .seq)
  .ret))))))))⟩
/-- anabranch/oper.Class -/
def DF49 : AFunc := ⟨16, [.tmp 2], (.seq (.region [⟨some 1, .box 84 (.t 0), none, []⟩,
    ⟨some 2, .move (.c (.int .i64 0)), none, []⟩] .seq)
  (.seq (.seq (.region [⟨some 3, .fieldAddr 0 (.t 1), none, []⟩,
    ⟨some 4, .load1 (.t 3), none, []⟩,
    ⟨some 5, .bin .lss (.t 4) (.c (.int .i64 0)), none, []⟩,
    ⟨some 6, .move (.t 5), none, []⟩,
    ⟨some 7, .fieldAddr 0 (.t 1), some (6, false), []⟩,
    ⟨some 8, .load1 (.t 7), some (6, false), []⟩,
    ⟨some 9, .bin .gtr (.t 8) (.c (.int .i64 7)), some (6, false), []⟩,
    ⟨some 10, .pick (.t 6) (.c (.bool true)) (.t 9), none, []⟩] .seq)
  (.cond (.t 10) (.seq (.region [⟨some 2, .move (.c (.int .i64 (-1))), none, []⟩] .seq)
  .ret)
  .skip))
  (.seq (.region [⟨some 11, .callF 93 [], none, []⟩,
    ⟨some 12, .fieldAddr 0 (.t 1), none, []⟩,
    ⟨some 13, .load1 (.t 12), none, [0, 6]⟩,
    ⟨some 14, .index 8 3 true (.t 11) (.t 13), none, []⟩,
    ⟨some 15, .field 0 1 false (.t 14), none, []⟩,
    ⟨some 2, .move (.t 15), none, []⟩] .sink)
  .ret)))⟩
/-- (*anabranch/table.Table).Ver -/
def DF50 : AFunc := ⟨25, [.tmp 6], (.seq (.region [⟨some 6, .move (.c (.int .i64 0)), none, []⟩] .seq)
  (.seq (.seq (.region [⟨some 9, .move (.t 0), none, []⟩,
    ⟨some 10, .move (.t 1), none, []⟩,
    ⟨some 11, .callF 94 [(.t 9), (.t 10)], none, []⟩,
    ⟨some 12, .len .sl (.t 11), none, []⟩,
    ⟨some 13, .move (.c (.int .i64 0)), none, []⟩] .seq)
  (.block 0 (.loop (.seq (.region [⟨some 14, .bin .lss (.t 13) (.t 12), none, []⟩] .seq)
  (.seq (.cond (.t 14) .skip
  (.exit 0))
  (.seq (.block 1 (.seq (.region [⟨some 15, .indexAddrS 10 (.t 11) (.t 13), none, []⟩,
    ⟨some 16, .loadN 10 (.t 15), none, []⟩,
    ⟨some 8, .alloc 86 [(.int .i64 0), (.int .i64 0), .sl0, (.int .i64 0), (.int .i64 0), (.int .i64 0), (.int .i64 0), (.int .i64 0), (.int .i64 0), (.int .i64 0)], none, []⟩,
    ⟨none, .store 10 (.t 8) (.t 16), none, []⟩] .seq)
  (.seq (.region [⟨some 17, .fieldAddr 1 (.t 8), none, []⟩,
    ⟨some 18, .load1 (.t 17), none, []⟩,
    ⟨some 19, .move (.t 2), none, []⟩,
    ⟨some 20, .bin .leq (.t 18) (.t 19), none, []⟩] .seq)
  (.cond (.t 20) (.region [⟨some 21, .move (.t 6), none, []⟩,
    ⟨some 22, .bin .add (.t 21) (.c (.int .i64 1)), none, []⟩,
    ⟨some 6, .move (.t 22), none, []⟩] .seq)
  .skip))))
  (.region [⟨some 23, .bin .add (.t 13) (.c (.int .i64 1)), none, []⟩,
    ⟨some 13, .move (.t 23), none, []⟩] .seq)))))))
  (.seq (.region [⟨some 24, .move (.t 6), none, []⟩,
    ⟨some 6, .move (.t 24), none, []⟩] .seq)
  .ret)))⟩
/-- anabranch/acc.One -/
def DF51 : AFunc := ⟨10, [.cellN 2 5], (.seq (.region [⟨some 2, .alloc 26 [(.int .i64 0), (.int .i64 0), (.int .u64 0), (.int .i64 0), (.int .i64 0)], none, []⟩] .seq)
  (.seq (.region [⟨some 3, .move (.t 0), none, []⟩,
    ⟨some 4, .bin .shr (.t 3) (.c (.int .u64 63)), none, []⟩,
    ⟨some 5, .move (.t 0), none, []⟩,
    ⟨some 6, .conv .u64 (.t 5), none, []⟩,
    ⟨some 7, .move (.t 0), none, []⟩,
    ⟨some 8, .move (.t 0), none, []⟩,
    ⟨some 9, .build [(.int .i64 0), (.int .i64 0), (.int .u64 0), (.int .i64 0), (.int .i64 0)] [(0, 1, (.c (.int .i64 1))), (1, 1, (.t 4)), (2, 1, (.t 6)), (3, 1, (.t 7)), (4, 1, (.t 8))], none, []⟩,
    ⟨none, .store 5 (.t 2) (.t 9), none, []⟩] .seq)
  .ret))⟩
/-- (*anabranch/table.Table).Add -/
def DF55 : AFunc := ⟨118, [.tmp 6], (.seq (.region [⟨some 4, .box 86 (.t 1), none, []⟩,
    ⟨some 6, .move (.c (.int .i64 0)), none, []⟩] .seq)
  (.seq (.seq (.region [⟨some 10, .move (.t 0), none, []⟩,
    ⟨some 11, .loadN 10 (.t 4), none, []⟩,
    ⟨some 12, .move (.t 2), none, []⟩,
    ⟨some 13, .callF 104 [(.t 10), (.t 11), (.t 12)], none, []⟩,
    ⟨some 7, .move (.t 13), none, []⟩] .seq)
  (.seq (.region [⟨some 14, .move (.t 7), none, []⟩,
    ⟨some 15, .bin .neq (.t 14) (.c (.int .i64 0)), none, []⟩] .seq)
  (.cond (.t 15) (.seq (.region [⟨some 16, .move (.t 7), none, []⟩,
    ⟨some 6, .move (.t 16), none, []⟩] .seq)
  .ret)
  .skip)))
  (.seq (.region [⟨some 17, .fieldAddr 2 (.t 4), none, []⟩,
    ⟨some 18, .load1 (.t 17), none, []⟩,
    ⟨some 19, .callF 105 [(.t 18)], none, []⟩,
    ⟨some 20, .fieldAddr 2 (.t 4), none, []⟩,
    ⟨none, .store 1 (.t 20) (.t 19), none, []⟩] .seq)
  (.seq (.region [⟨some 21, .move (.t 0), none, []⟩,
    ⟨some 22, .move (.t 0), none, []⟩,
    ⟨some 23, .nilCheck (.t 22), none, []⟩,
    ⟨some 24, .fieldAddr 9 (.t 23), none, []⟩,
    ⟨some 25, .load1 (.t 24), none, [7]⟩,
    ⟨some 26, .loadN 10 (.t 4), none, [7]⟩,
    ⟨some 27, .buildSlice 86 1 10 [(.int .i64 0), (.int .i64 0), .sl0, (.int .i64 0), (.int .i64 0), (.int .i64 0), (.int .i64 0), (.int .i64 0), (.int .i64 0), (.int .i64 0)] [(0, 10, (.t 26))], none, []⟩,
    ⟨some 28, .append 86 10 96 [(.int .i64 0), (.int .i64 0), .sl0, (.int .i64 0), (.int .i64 0), (.int .i64 0), (.int .i64 0), (.int .i64 0), (.int .i64 0), (.int .i64 0)] (.t 25) (.t 27), none, []⟩,
    ⟨some 29, .nilCheck (.t 21), none, []⟩,
    ⟨some 30, .fieldAddr 9 (.t 29), none, []⟩,
    ⟨none, .store 1 (.t 30) (.t 28), none, []⟩] .sink)
  (.seq (.seq (.region [⟨some 31, .fieldAddr 0 (.t 4), none, []⟩,
    ⟨some 32, .load1 (.t 31), none, []⟩] .seq)
  (.block 0 (.seq (.region [⟨some 34, .bin .eql (.t 32) (.c (.int .i64 0)), none, []⟩,
    ⟨some 33, .move (.t 34), none, []⟩] .seq)
  (.cond (.t 33) (.region [⟨some 35, .move (.t 0), none, []⟩,
    ⟨some 36, .fieldAddr 1 (.t 4), none, []⟩,
    ⟨some 37, .load1 (.t 36), none, []⟩,
    ⟨some 38, .fieldAddr 2 (.t 4), none, []⟩,
    ⟨some 39, .load1 (.t 38), none, []⟩,
    ⟨some 40, .fieldAddr 3 (.t 4), none, []⟩,
    ⟨some 41, .load1 (.t 40), none, []⟩,
    ⟨some 42, .buildSlice 3 1 1 [(.int .i64 0)] [(0, 1, (.t 41))], none, []⟩,
    ⟨some 43, .callF 106 [(.t 35), (.t 37), (.t 39), (.t 42)], none, []⟩] .seq)
  (.seq (.region [⟨some 45, .bin .eql (.t 32) (.c (.int .i64 1)), none, []⟩,
    ⟨some 44, .move (.t 45), none, []⟩] .seq)
  (.cond (.t 44) (.seq (.region [⟨some 46, .move (.t 0), none, []⟩,
    ⟨some 47, .move (.t 0), none, []⟩,
    ⟨some 48, .nilCheck (.t 47), none, []⟩,
    ⟨some 49, .fieldAddr 18 (.t 48), none, []⟩,
    ⟨some 50, .load1 (.t 49), none, [5]⟩,
    ⟨some 51, .callF 105 [(.t 50)], none, []⟩,
    ⟨some 52, .fieldAddr 3 (.t 4), none, []⟩,
    ⟨some 53, .load1 (.t 52), none, [5, 9]⟩,
    ⟨some 54, .buildSlice 3 1 1 [(.int .i64 0)] [(0, 1, (.t 53))], none, []⟩,
    ⟨some 55, .append 3 1 8 [(.int .i64 0)] (.t 51) (.t 54), none, []⟩,
    ⟨some 56, .nilCheck (.t 46), none, []⟩,
    ⟨some 57, .fieldAddr 18 (.t 56), none, []⟩,
    ⟨none, .store 1 (.t 57) (.t 55), none, []⟩] .sink)
  (.region [⟨some 58, .move (.t 0), none, []⟩,
    ⟨some 59, .nilCheck (.t 58), none, []⟩,
    ⟨some 60, .fieldAddr 18 (.t 59), none, []⟩,
    ⟨some 61, .load1 (.t 60), none, []⟩,
    ⟨some 62, .callF 107 [(.t 61)], none, []⟩] .seq))
  (.seq (.region [⟨some 64, .bin .eql (.t 32) (.c (.int .i64 2)), none, []⟩,
    ⟨some 63, .move (.t 64), none, []⟩] .seq)
  (.cond (.t 63) (.seq (.region [⟨some 65, .move (.t 0), none, []⟩,
    ⟨some 66, .move (.t 0), none, []⟩,
    ⟨some 67, .nilCheck (.t 66), none, []⟩,
    ⟨some 68, .fieldAddr 18 (.t 67), none, []⟩,
    ⟨some 69, .load1 (.t 68), none, []⟩,
    ⟨some 70, .callF 105 [(.t 69)], none, []⟩,
    ⟨some 71, .mkFunc 109 [] [(.t 4)], none, []⟩,
    ⟨some 72, .callF 108 [(.t 70), (.t 71)], none, []⟩,
    ⟨some 73, .nilCheck (.t 65), none, []⟩,
    ⟨some 74, .fieldAddr 18 (.t 73), none, []⟩,
    ⟨none, .store 1 (.t 74) (.t 72), none, []⟩] .seq)
  (.seq (.region [⟨some 8, .move (.c .sl0), none, []⟩] .seq)
  (.seq (.seq (.region [⟨some 75, .move (.c (.int .i64 0)), none, []⟩] .seq)
  (.block 1 (.loop (.seq (.region [⟨some 76, .bin .lss (.t 75) (.c (.int .i64 8)), none, []⟩] .seq)
  (.seq (.cond (.t 76) .skip
  (.exit 1))
  (.seq (.block 2 (.seq (.region [⟨some 77, .move (.t 75), none, []⟩,
    ⟨some 9, .move (.t 77), none, []⟩] .seq)
  (.seq (.region [⟨some 78, .move (.t 0), none, []⟩,
    ⟨some 79, .move (.t 9), none, []⟩,
    ⟨some 80, .callF 110 [(.t 78), (.t 79)], none, []⟩,
    ⟨some 81, .fieldAddr 3 (.t 4), none, []⟩,
    ⟨some 82, .load1 (.t 81), none, [2, 6]⟩,
    ⟨some 83, .bin .eql (.t 80) (.t 82), none, []⟩] .sink)
  (.cond (.t 83) (.region [⟨some 84, .move (.t 8), none, []⟩,
    ⟨some 85, .move (.t 9), none, []⟩,
    ⟨some 86, .buildSlice 3 1 1 [(.int .i64 0)] [(0, 1, (.t 85))], none, []⟩,
    ⟨some 87, .append 3 1 8 [(.int .i64 0)] (.t 84) (.t 86), none, []⟩,
    ⟨some 8, .move (.t 87), none, []⟩] .seq)
  .skip))))
  (.region [⟨some 88, .bin .add (.t 75) (.c (.int .i64 1)), none, []⟩,
    ⟨some 75, .move (.t 88), none, []⟩] .seq)))))))
  (.region [⟨some 89, .move (.t 0), none, []⟩,
    ⟨some 90, .fieldAddr 1 (.t 4), none, []⟩,
    ⟨some 91, .load1 (.t 90), none, [8]⟩,
    ⟨some 92, .move (.t 8), none, []⟩,
    ⟨some 93, .move (.t 0), none, []⟩,
    ⟨some 94, .nilCheck (.t 93), none, []⟩,
    ⟨some 95, .fieldAddr 18 (.t 94), none, []⟩,
    ⟨some 96, .load1 (.t 95), none, [8]⟩,
    ⟨some 97, .callF 106 [(.t 89), (.t 91), (.t 92), (.t 96)], none, []⟩] .sink))))
  (.seq (.region [⟨some 99, .bin .eql (.t 32) (.c (.int .i64 3)), none, []⟩,
    ⟨some 98, .move (.t 99), none, []⟩] .seq)
  (.cond (.t 98) (.region [⟨some 100, .move (.t 0), none, []⟩,
    ⟨some 101, .nilCheck (.t 100), none, []⟩,
    ⟨some 102, .fieldAddr 20 (.t 101), none, []⟩,
    ⟨some 103, .load1 (.t 102), none, [16, 18]⟩,
    ⟨some 104, .fieldAddr 4 (.t 4), none, []⟩,
    ⟨some 105, .load1 (.t 104), none, [16, 18]⟩,
    ⟨some 106, .move (.t 0), none, []⟩,
    ⟨some 107, .nilCheck (.t 106), none, []⟩,
    ⟨some 108, .fieldAddr 20 (.t 107), none, []⟩,
    ⟨some 109, .load1 (.t 108), none, [16]⟩,
    ⟨some 110, .fieldAddr 4 (.t 4), none, []⟩,
    ⟨some 111, .load1 (.t 110), none, [16]⟩,
    ⟨some 112, .indexAddrS 1 (.t 109) (.t 111), none, []⟩,
    ⟨some 113, .load1 (.t 112), none, [16]⟩,
    ⟨some 114, .loadN 10 (.t 4), none, [16]⟩,
    ⟨some 115, .buildSlice 86 1 10 [(.int .i64 0), (.int .i64 0), .sl0, (.int .i64 0), (.int .i64 0), (.int .i64 0), (.int .i64 0), (.int .i64 0), (.int .i64 0), (.int .i64 0)] [(0, 10, (.t 114))], none, []⟩,
    ⟨some 116, .append 86 10 96 [(.int .i64 0), (.int .i64 0), .sl0, (.int .i64 0), (.int .i64 0), (.int .i64 0), (.int .i64 0), (.int .i64 0), (.int .i64 0), (.int .i64 0)] (.t 113) (.t 115), none, []⟩,
    ⟨some 117, .indexAddrS 1 (.t 103) (.t 105), none, []⟩,
    ⟨none, .store 1 (.t 117) (.t 116), none, []⟩] .sink)
  .skip))))))))))
  (.seq (.region [⟨some 6, .move (.c (.int .i64 0)), none, []⟩] .seq)
  .ret))))))⟩
/-- anabranch/denot.read -/
def DF59 : AFunc := ⟨98, [.tmp 4, .tmp 5], (.seq (.region [⟨some 4, .move (.c .sl0), none, []⟩,
    ⟨some 5, .move (.c .sl0), none, []⟩] .seq)
  (.seq (.region [⟨some 6, .move (.c (.int .i64 0)), none, []⟩] .seq)
  (.seq (.seq (.region [⟨some 11, .move (.t 0), none, []⟩,
    ⟨some 12, .len .sl (.t 11), none, []⟩,
    ⟨some 13, .move (.c (.int .i64 0)), none, []⟩] .seq)
  (.block 0 (.loop (.seq (.region [⟨some 14, .bin .lss (.t 13) (.t 12), none, []⟩] .seq)
  (.seq (.cond (.t 14) .skip
  (.exit 0))
  (.seq (.block 1 (.seq (.region [⟨some 15, .indexAddrS 8 (.t 11) (.t 13), none, []⟩,
    ⟨some 16, .loadN 8 (.t 15), none, []⟩,
    ⟨some 8, .alloc 89 [(.bool false), (.int .i64 0), (.int .u32 0), (.int .i64 0), (.int .i64 0), (.int .u8 0), (.bool false), (.bool false)], none, []⟩,
    ⟨none, .store 8 (.t 8) (.t 16), none, []⟩] .seq)
  (.seq (.seq (.region [⟨some 17, .fieldAddr 0 (.t 8), none, []⟩,
    ⟨some 18, .load1 (.t 17), none, []⟩,
    ⟨some 19, .move (.t 18), none, []⟩,
    ⟨some 20, .fieldAddr 1 (.t 8), some (19, true), []⟩,
    ⟨some 21, .load1 (.t 20), some (19, true), []⟩,
    ⟨some 22, .bin .eql (.t 21) (.c (.int .i64 1152921504606846976)), some (19, true), []⟩,
    ⟨some 23, .pick (.t 19) (.t 22) (.c (.bool false)), none, []⟩] .seq)
  (.cond (.t 23) (.exit 0)
  .skip))
  (.seq (.region [⟨some 24, .fieldAddr 1 (.t 8), none, []⟩,
    ⟨some 25, .load1 (.t 24), none, []⟩,
    ⟨some 26, .bin .geq (.t 25) (.c (.int .i64 0)), none, []⟩,
    ⟨some 27, .move (.t 26), none, []⟩,
    ⟨some 28, .fieldAddr 1 (.t 8), some (27, true), []⟩,
    ⟨some 29, .load1 (.t 28), some (27, true), []⟩,
    ⟨some 30, .bin .leq (.t 29) (.c (.int .i64 1099511627776)), some (27, true), []⟩,
    ⟨some 31, .pick (.t 27) (.t 30) (.c (.bool false)), none, []⟩,
    ⟨some 9, .move (.t 31), none, []⟩] .seq)
  (.seq (.region [⟨some 32, .fieldAddr 2 (.t 8), none, []⟩,
    ⟨some 33, .loadN 6 (.t 32), none, []⟩,
    ⟨some 10, .alloc 43 [(.int .u32 0), (.int .i64 0), (.int .i64 0), (.int .u8 0), (.bool false), (.bool false)], none, []⟩,
    ⟨none, .store 6 (.t 10) (.t 33), none, []⟩] .seq)
  (.block 2 (.seq (.region [⟨some 47, .fieldAddr 0 (.t 8), none, []⟩,
    ⟨some 48, .load1 (.t 47), none, []⟩,
    ⟨some 49, .move (.t 48), none, []⟩,
    ⟨some 50, .move (.t 9), some (49, true), []⟩,
    ⟨some 51, .pick (.t 49) (.t 50) (.c (.bool false)), none, []⟩,
    ⟨some 46, .move (.t 51), none, []⟩] .seq)
  (.cond (.t 46) (.region [⟨some 52, .move (.t 6), none, []⟩,
    ⟨some 53, .fieldAddr 1 (.t 8), none, []⟩,
    ⟨some 54, .load1 (.t 53), none, []⟩,
    ⟨some 55, .move (.t 1), none, []⟩,
    ⟨some 56, .bin .sub (.t 54) (.t 55), none, []⟩,
    ⟨some 57, .maxmin true [(.t 52), (.t 56)], none, []⟩,
    ⟨some 6, .move (.t 57), none, []⟩] .seq)
  (.seq (.region [⟨some 59, .fieldAddr 0 (.t 8), none, []⟩,
    ⟨some 60, .load1 (.t 59), none, []⟩,
    ⟨some 58, .move (.t 60), none, []⟩] .seq)
  (.cond (.t 58) .skip
  (.seq (.region [⟨some 62, .fieldAddr 1 (.t 10), none, []⟩,
    ⟨some 63, .load1 (.t 62), none, []⟩,
    ⟨some 64, .bin .lss (.t 63) (.c (.int .i64 0)), none, []⟩,
    ⟨some 65, .move (.t 64), none, []⟩,
    ⟨some 66, .fieldAddr 1 (.t 10), some (65, false), []⟩,
    ⟨some 67, .load1 (.t 66), some (65, false), []⟩,
    ⟨some 68, .bin .gtr (.t 67) (.c (.int .i64 1099511627776)), some (65, false), []⟩,
    ⟨some 69, .pick (.t 65) (.c (.bool true)) (.t 68), none, []⟩,
    ⟨some 61, .move (.t 69), none, []⟩] .seq)
  (.cond (.t 61) (.region [⟨some 70, .move (.t 4), none, []⟩,
    ⟨some 71, .fieldAddr 0 (.t 10), none, []⟩,
    ⟨some 72, .load1 (.t 71), none, []⟩,
    ⟨some 73, .fieldAddr 3 (.t 10), none, []⟩,
    ⟨some 74, .load1 (.t 73), none, []⟩,
    ⟨some 75, .move (.t 6), none, []⟩,
    ⟨some 76, .build [(.int .u32 0), (.int .i64 0), (.int .i64 0), (.int .u8 0), (.bool false), (.bool false)] [(0, 1, (.t 72)), (3, 1, (.t 74)), (1, 1, (.t 75)), (4, 1, (.c (.bool true)))], none, []⟩,
    ⟨some 77, .buildSlice 43 1 6 [(.int .u32 0), (.int .i64 0), (.int .i64 0), (.int .u8 0), (.bool false), (.bool false)] [(0, 6, (.t 76))], none, []⟩,
    ⟨some 78, .append 43 6 32 [(.int .u32 0), (.int .i64 0), (.int .i64 0), (.int .u8 0), (.bool false), (.bool false)] (.t 70) (.t 77), none, []⟩,
    ⟨some 4, .move (.t 78), none, []⟩] .seq)
  (.seq (.region [⟨some 80, .fieldAddr 1 (.t 10), none, []⟩,
    ⟨some 81, .load1 (.t 80), none, []⟩,
    ⟨some 82, .move (.t 6), none, []⟩,
    ⟨some 83, .bin .lss (.t 81) (.t 82), none, []⟩,
    ⟨some 79, .move (.t 83), none, []⟩] .seq)
  (.cond (.t 79) (.region [⟨some 84, .move (.t 4), none, []⟩,
    ⟨some 85, .fieldAddr 0 (.t 10), none, []⟩,
    ⟨some 86, .load1 (.t 85), none, []⟩,
    ⟨some 87, .fieldAddr 3 (.t 10), none, []⟩,
    ⟨some 88, .load1 (.t 87), none, []⟩,
    ⟨some 89, .move (.t 6), none, []⟩,
    ⟨some 90, .fieldAddr 2 (.t 10), none, []⟩,
    ⟨some 91, .load1 (.t 90), none, []⟩,
    ⟨some 92, .build [(.int .u32 0), (.int .i64 0), (.int .i64 0), (.int .u8 0), (.bool false), (.bool false)] [(0, 1, (.t 86)), (3, 1, (.t 88)), (1, 1, (.t 89)), (2, 1, (.t 91)), (5, 1, (.c (.bool true)))], none, []⟩,
    ⟨some 93, .buildSlice 43 1 6 [(.int .u32 0), (.int .i64 0), (.int .i64 0), (.int .u8 0), (.bool false), (.bool false)] [(0, 6, (.t 92))], none, []⟩,
    ⟨some 94, .append 43 6 32 [(.int .u32 0), (.int .i64 0), (.int .i64 0), (.int .u8 0), (.bool false), (.bool false)] (.t 84) (.t 93), none, []⟩,
    ⟨some 4, .move (.t 94), none, []⟩] .seq)
  (.region [⟨some 34, .move (.t 5), none, []⟩,
    ⟨some 35, .fieldAddr 0 (.t 10), none, []⟩,
    ⟨some 36, .load1 (.t 35), none, []⟩,
    ⟨some 37, .fieldAddr 3 (.t 10), none, []⟩,
    ⟨some 38, .load1 (.t 37), none, []⟩,
    ⟨some 39, .fieldAddr 1 (.t 10), none, []⟩,
    ⟨some 40, .load1 (.t 39), none, []⟩,
    ⟨some 41, .fieldAddr 2 (.t 10), none, []⟩,
    ⟨some 42, .load1 (.t 41), none, []⟩,
    ⟨some 43, .build [(.int .u32 0), (.int .i64 0), (.int .i64 0), (.int .u8 0), (.bool false), (.bool false)] [(0, 1, (.t 36)), (3, 1, (.t 38)), (1, 1, (.t 40)), (2, 1, (.t 42))], none, []⟩,
    ⟨some 44, .buildSlice 43 1 6 [(.int .u32 0), (.int .i64 0), (.int .i64 0), (.int .u8 0), (.bool false), (.bool false)] [(0, 6, (.t 43))], none, []⟩,
    ⟨some 45, .append 43 6 32 [(.int .u32 0), (.int .i64 0), (.int .i64 0), (.int .u8 0), (.bool false), (.bool false)] (.t 34) (.t 44), none, []⟩,
    ⟨some 5, .move (.t 45), none, []⟩] .seq)))))))))))))))
  (.region [⟨some 95, .bin .add (.t 13) (.c (.int .i64 1)), none, []⟩,
    ⟨some 13, .move (.t 95), none, []⟩] .seq)))))))
  (.seq (.region [⟨some 96, .move (.t 4), none, []⟩,
    ⟨some 97, .move (.t 5), none, []⟩,
    ⟨some 4, .move (.t 96), none, []⟩,
    ⟨some 5, .move (.t 97), none, []⟩] .seq)
  .ret))))⟩
/-- anabranch/denot.through -/
def DF60 : AFunc := ⟨8, [.tmp 6], (.seq (.region [⟨some 3, .box 34 (.t 0), none, []⟩,
    ⟨some 4, .box 82 (.t 1), none, []⟩,
    ⟨some 5, .box 139 (.t 2), none, []⟩,
    ⟨some 6, .move (.c .fn0), none, []⟩] .seq)
  (.seq (.region [⟨some 7, .mkFunc 114 [] [(.t 5), (.t 3), (.t 4)], none, []⟩,
    ⟨some 6, .move (.t 7), none, []⟩] .seq)
  .ret))⟩
/-- anabranch/plan.Pre -/
def DF61 : AFunc := ⟨5, [.tmp 2], (.seq (.region [⟨some 1, .box 55 (.t 0), none, []⟩,
    ⟨some 2, .move (.c .sl0), none, []⟩] .seq)
  (.seq (.region [⟨some 3, .loadN 4 (.t 1), none, []⟩,
    ⟨some 4, .callF 116 [(.t 3), (.c (.fn 117 [] []))], none, []⟩,
    ⟨some 2, .move (.t 4), none, []⟩] .seq)
  .ret))⟩
/-- slices.Values[[]anabranch/api.Rec,anabranch/api.Rec] -/
def DF62 : AFunc := ⟨4, [.tmp 2], (.seq (.region [⟨some 1, .box 31 (.t 0), none, []⟩,
    ⟨some 2, .move (.c .fn0), none, []⟩] .seq)
  (.seq (.region [⟨some 3, .mkFunc 118 [] [(.t 1)], none, []⟩,
    ⟨some 2, .move (.t 3), none, []⟩] .seq)
  .ret))⟩
/-- anabranch/plan.Post -/
def DF63 : AFunc := ⟨8, [.tmp 4], (.seq (.region [⟨some 2, .box 55 (.t 0), none, []⟩,
    ⟨some 3, .box 3 (.t 1), none, []⟩,
    ⟨some 4, .move (.c .sl0), none, []⟩] .seq)
  (.seq (.region [⟨some 5, .loadN 4 (.t 2), none, []⟩,
    ⟨some 6, .mkFunc 119 [] [(.t 3)], none, []⟩,
    ⟨some 7, .callF 116 [(.t 5), (.t 6)], none, []⟩,
    ⟨some 4, .move (.t 7), none, []⟩] .seq)
  .ret))⟩
/-- anabranch/denot.stage -/
def DF64 : AFunc := ⟨8, [.tmp 6], (.seq (.region [⟨some 3, .box 34 (.t 0), none, []⟩,
    ⟨some 4, .box 3 (.t 1), none, []⟩,
    ⟨some 5, .box 139 (.t 2), none, []⟩,
    ⟨some 6, .move (.c .fn0), none, []⟩] .seq)
  (.seq (.region [⟨some 7, .mkFunc 121 [] [(.t 5), (.t 3), (.t 4)], none, []⟩,
    ⟨some 6, .move (.t 7), none, []⟩] .seq)
  .ret))⟩
/-- anabranch/plan.Of -/
def DF65 : AFunc := ⟨17, [.tmp 4], (.seq (.region [⟨some 2, .box 55 (.t 0), none, []⟩,
    ⟨some 3, .box 3 (.t 1), none, []⟩,
    ⟨some 4, .move (.c (.int .i64 0)), none, []⟩] .seq)
  (.seq (.seq (.region [⟨some 7, .loadN 4 (.t 2), none, []⟩,
    ⟨some 8, .mkFunc 124 [] [(.t 3)], none, []⟩,
    ⟨some 9, .callF 116 [(.t 7), (.t 8)], none, []⟩,
    ⟨some 10, .len .sl (.t 9), none, []⟩,
    ⟨some 11, .move (.c (.int .i64 0)), none, []⟩] .seq)
  (.block 0 (.loop (.seq (.region [⟨some 12, .bin .lss (.t 11) (.t 10), none, []⟩] .seq)
  (.seq (.cond (.t 12) .skip
  (.exit 0))
  (.seq (.block 1 (.seq (.region [⟨some 13, .indexAddrS 1 (.t 9) (.t 11), none, []⟩,
    ⟨some 14, .load1 (.t 13), none, []⟩,
    ⟨some 6, .move (.t 14), none, []⟩] .seq)
  (.seq (.region [⟨some 15, .move (.t 6), none, []⟩,
    ⟨some 4, .move (.t 15), none, []⟩] .seq)
  .ret)))
  (.region [⟨some 16, .bin .add (.t 11) (.c (.int .i64 1)), none, []⟩,
    ⟨some 11, .move (.t 16), none, []⟩] .seq)))))))
  (.seq (.region [⟨some 4, .move (.c (.int .i64 (-1))), none, []⟩] .seq)
  .ret)))⟩
/-- slices.AppendSeq[[]anabranch/api.Rec,anabranch/api.Rec] -/
def DF66 : AFunc := ⟨13, [.tmp 4], (.seq (.region [⟨some 2, .box 31 (.t 0), none, []⟩,
    ⟨some 4, .move (.c .sl0), none, []⟩] .seq)
  (.seq (.seq (.region [⟨some 6, .move (.t 1), none, []⟩] .seq)
  (.block 0 (.rangeFunc (.t 6) [7] (.region [⟨some 5, .alloc 43 [(.int .u32 0), (.int .i64 0), (.int .i64 0), (.int .u8 0), (.bool false), (.bool false)], none, []⟩,
    ⟨none, .store 6 (.t 5) (.t 7), none, []⟩] .seq)
  (.block 1 (.region [⟨some 8, .load1 (.t 2), none, []⟩,
    ⟨some 9, .loadN 6 (.t 5), none, []⟩,
    ⟨some 10, .buildSlice 43 1 6 [(.int .u32 0), (.int .i64 0), (.int .i64 0), (.int .u8 0), (.bool false), (.bool false)] [(0, 6, (.t 9))], none, []⟩,
    ⟨some 11, .append 43 6 32 [(.int .u32 0), (.int .i64 0), (.int .i64 0), (.int .u8 0), (.bool false), (.bool false)] (.t 8) (.t 10), none, []⟩,
    ⟨none, .store 1 (.t 2) (.t 11), none, []⟩] .seq)))))
  (.seq (.region [⟨some 12, .load1 (.t 2), none, []⟩,
    ⟨some 4, .move (.t 12), none, []⟩] .seq)
  .ret)))⟩
/-- anabranch/denot.order -/
def DF74 : AFunc := ⟨41, [.tmp 4], (.seq (.region [⟨some 2, .box 43 (.t 0), none, []⟩,
    ⟨some 3, .box 43 (.t 1), none, []⟩,
    ⟨some 4, .move (.c (.int .i64 0)), none, []⟩] .seq)
  (.seq (.region [⟨some 5, .fieldAddr 1 (.t 2), none, []⟩,
    ⟨some 6, .load1 (.t 5), none, [4]⟩,
    ⟨some 7, .fieldAddr 1 (.t 3), none, []⟩,
    ⟨some 8, .load1 (.t 7), none, [4]⟩,
    ⟨some 9, .callF 41 [(.t 6), (.t 8)], none, []⟩,
    ⟨some 10, .fieldAddr 0 (.t 2), none, []⟩,
    ⟨some 11, .load1 (.t 10), none, [4, 9]⟩,
    ⟨some 12, .fieldAddr 0 (.t 3), none, []⟩,
    ⟨some 13, .load1 (.t 12), none, [4, 9]⟩,
    ⟨some 14, .callF 80 [(.t 11), (.t 13)], none, []⟩,
    ⟨some 15, .fieldAddr 2 (.t 2), none, []⟩,
    ⟨some 16, .load1 (.t 15), none, [4, 9, 14]⟩,
    ⟨some 17, .fieldAddr 2 (.t 3), none, []⟩,
    ⟨some 18, .load1 (.t 17), none, [4, 9, 14]⟩,
    ⟨some 19, .callF 41 [(.t 16), (.t 18)], none, []⟩,
    ⟨some 20, .fieldAddr 3 (.t 2), none, []⟩,
    ⟨some 21, .load1 (.t 20), none, [4, 9, 14, 19]⟩,
    ⟨some 22, .fieldAddr 3 (.t 3), none, []⟩,
    ⟨some 23, .load1 (.t 22), none, [4, 9, 14, 19]⟩,
    ⟨some 24, .callF 81 [(.t 21), (.t 23)], none, []⟩,
    ⟨some 25, .fieldAddr 4 (.t 2), none, []⟩,
    ⟨some 26, .load1 (.t 25), none, [4, 9, 14, 19, 22]⟩,
    ⟨some 27, .callF 134 [(.t 26)], none, []⟩,
    ⟨some 28, .fieldAddr 4 (.t 3), none, []⟩,
    ⟨some 29, .load1 (.t 28), none, [4, 9, 14, 19, 22, 25]⟩,
    ⟨some 30, .callF 134 [(.t 29)], none, []⟩,
    ⟨some 31, .bin .sub (.t 27) (.t 30), none, []⟩,
    ⟨some 32, .fieldAddr 5 (.t 2), none, []⟩,
    ⟨some 33, .load1 (.t 32), none, [4, 9, 14, 19, 22, 25, 29]⟩,
    ⟨some 34, .callF 134 [(.t 33)], none, []⟩,
    ⟨some 35, .fieldAddr 5 (.t 3), none, []⟩,
    ⟨some 36, .load1 (.t 35), none, [4, 9, 14, 19, 22, 25, 29, 32]⟩,
    ⟨some 37, .callF 134 [(.t 36)], none, []⟩,
    ⟨some 38, .bin .sub (.t 34) (.t 37), none, []⟩,
    ⟨some 39, .buildSlice 3 6 1 [(.int .i64 0), (.int .i64 0), (.int .i64 0), (.int .i64 0), (.int .i64 0), (.int .i64 0)] [(0, 1, (.t 9)), (1, 1, (.t 14)), (2, 1, (.t 19)), (3, 1, (.t 24)), (4, 1, (.t 31)), (5, 1, (.t 38))], none, []⟩,
    ⟨some 40, .callF 133 [(.t 39)], none, []⟩,
    ⟨some 4, .move (.t 40), none, []⟩] .sink)
  .ret))⟩
/-- anabranch/denot.sorted[anabranch/api.Rec] -/
def DF75 : AFunc := ⟨11, [.tmp 4], (.seq (.region [⟨some 4, .move (.c .sl0), none, []⟩] .seq)
  (.seq (.region [⟨some 5, .move (.t 0), none, []⟩,
    ⟨some 6, .callF 135 [(.t 5)], none, []⟩,
    ⟨some 0, .move (.t 6), none, []⟩] .seq)
  (.seq (.region [⟨some 7, .move (.t 0), none, []⟩,
    ⟨some 8, .move (.t 1), none, []⟩,
    ⟨some 9, .callF 136 [(.t 7), (.t 8)], none, []⟩] .seq)
  (.seq (.region [⟨some 10, .move (.t 0), none, []⟩,
    ⟨some 4, .move (.t 10), none, []⟩] .seq)
  .ret))))⟩
/-- (*anabranch/table.Table).Next -/
def DF76 : AFunc := ⟨23, [.cellN 6 10, .tmp 7], (.seq (.region [⟨some 6, .alloc 86 [(.int .i64 0), (.int .i64 0), .sl0, (.int .i64 0), (.int .i64 0), (.int .i64 0), (.int .i64 0), (.int .i64 0), (.int .i64 0), (.int .i64 0)], none, []⟩,
    ⟨some 7, .move (.c (.bool false)), none, []⟩] .seq)
  (.seq (.region [⟨some 9, .move (.t 0), none, []⟩,
    ⟨some 10, .move (.t 1), none, []⟩,
    ⟨some 11, .callF 94 [(.t 9), (.t 10)], none, []⟩,
    ⟨some 8, .move (.t 11), none, []⟩] .seq)
  (.seq (.seq (.region [⟨some 12, .move (.t 2), none, []⟩,
    ⟨some 13, .move (.t 8), none, []⟩,
    ⟨some 14, .len .sl (.t 13), none, []⟩,
    ⟨some 15, .bin .sub (.t 14) (.c (.int .i64 1)), none, []⟩,
    ⟨some 16, .callF 86 [(.t 12), (.c (.int .i64 0)), (.t 15)], none, []⟩,
    ⟨some 17, .un .not (.t 16), none, []⟩] .seq)
  (.cond (.t 17) (.seq (.region [⟨some 18, .build [(.int .i64 0), (.int .i64 0), .sl0, (.int .i64 0), (.int .i64 0), (.int .i64 0), (.int .i64 0), (.int .i64 0), (.int .i64 0), (.int .i64 0)] [], none, []⟩,
    ⟨none, .store 10 (.t 6) (.t 18), none, []⟩,
    ⟨some 7, .move (.c (.bool false)), none, []⟩] .seq)
  .ret)
  .skip))
  (.seq (.region [⟨some 19, .move (.t 8), none, []⟩,
    ⟨some 20, .move (.t 2), none, []⟩,
    ⟨some 21, .indexAddrS 10 (.t 19) (.t 20), none, []⟩,
    ⟨some 22, .loadN 10 (.t 21), none, []⟩,
    ⟨none, .store 10 (.t 6) (.t 22), none, []⟩,
    ⟨some 7, .move (.c (.bool true)), none, []⟩] .seq)
  .ret))))⟩
/-- cmp.Or[int] -/
def DF77 : AFunc := ⟨18, [.tmp 2], (.seq (.region [⟨some 2, .move (.c (.int .i64 0)), none, []⟩] .seq)
  (.seq (.region [⟨some 3, .move (.c (.int .i64 0)), none, []⟩] .seq)
  (.seq (.seq (.region [⟨some 6, .move (.t 0), none, []⟩,
    ⟨some 7, .len .sl (.t 6), none, []⟩,
    ⟨some 8, .move (.c (.int .i64 0)), none, []⟩] .seq)
  (.block 0 (.loop (.seq (.region [⟨some 9, .bin .lss (.t 8) (.t 7), none, []⟩] .seq)
  (.seq (.cond (.t 9) .skip
  (.exit 0))
  (.seq (.block 1 (.seq (.region [⟨some 10, .indexAddrS 1 (.t 6) (.t 8), none, []⟩,
    ⟨some 11, .load1 (.t 10), none, []⟩,
    ⟨some 5, .move (.t 11), none, []⟩] .seq)
  (.seq (.region [⟨some 12, .move (.t 5), none, []⟩,
    ⟨some 13, .move (.t 3), none, []⟩,
    ⟨some 14, .bin .neq (.t 12) (.t 13), none, []⟩] .seq)
  (.cond (.t 14) (.seq (.region [⟨some 15, .move (.t 5), none, []⟩,
    ⟨some 2, .move (.t 15), none, []⟩] .seq)
  .ret)
  .skip))))
  (.region [⟨some 16, .bin .add (.t 8) (.c (.int .i64 1)), none, []⟩,
    ⟨some 8, .move (.t 16), none, []⟩] .seq)))))))
  (.seq (.region [⟨some 17, .move (.t 3), none, []⟩,
    ⟨some 2, .move (.t 17), none, []⟩] .seq)
  .ret))))⟩
/-- cmp.isNaN[int64] -/
def DF78 : AFunc := ⟨6, [.tmp 2], (.seq (.region [⟨some 2, .move (.c (.bool false)), none, []⟩] .seq)
  (.seq (.region [⟨some 3, .move (.t 0), none, []⟩,
    ⟨some 4, .move (.t 0), none, []⟩,
    ⟨some 5, .bin .neq (.t 3) (.t 4), none, []⟩,
    ⟨some 2, .move (.t 5), none, []⟩] .seq)
  .ret))⟩
/-- cmp.Compare[uint32] -/
def DF80 : AFunc := ⟨20, [.tmp 4], (.seq (.region [⟨some 4, .move (.c (.int .i64 0)), none, []⟩] .seq)
  (.seq (.region [⟨some 7, .move (.t 0), none, []⟩,
    ⟨some 8, .callF 138 [(.t 7)], none, []⟩,
    ⟨some 5, .move (.t 8), none, []⟩] .seq)
  (.seq (.region [⟨some 9, .move (.t 1), none, []⟩,
    ⟨some 10, .callF 138 [(.t 9)], none, []⟩,
    ⟨some 6, .move (.t 10), none, []⟩] .seq)
  (.seq (.seq (.region [⟨some 11, .move (.t 5), none, []⟩] .seq)
  (.cond (.t 11) (.seq (.seq (.region [⟨some 12, .move (.t 6), none, []⟩] .seq)
  (.cond (.t 12) (.seq (.region [⟨some 4, .move (.c (.int .i64 0)), none, []⟩] .seq)
  .ret)
  .skip))
  (.seq (.region [⟨some 4, .move (.c (.int .i64 (-1))), none, []⟩] .seq)
  .ret))
  .skip))
  (.seq (.seq (.region [⟨some 13, .move (.t 6), none, []⟩] .seq)
  (.cond (.t 13) (.seq (.region [⟨some 4, .move (.c (.int .i64 1)), none, []⟩] .seq)
  .ret)
  .skip))
  (.seq (.seq (.region [⟨some 14, .move (.t 0), none, []⟩,
    ⟨some 15, .move (.t 1), none, []⟩,
    ⟨some 16, .bin .lss (.t 14) (.t 15), none, []⟩] .seq)
  (.cond (.t 16) (.seq (.region [⟨some 4, .move (.c (.int .i64 (-1))), none, []⟩] .seq)
  .ret)
  .skip))
  (.seq (.seq (.region [⟨some 17, .move (.t 0), none, []⟩,
    ⟨some 18, .move (.t 1), none, []⟩,
    ⟨some 19, .bin .gtr (.t 17) (.t 18), none, []⟩] .seq)
  (.cond (.t 19) (.seq (.region [⟨some 4, .move (.c (.int .i64 1)), none, []⟩] .seq)
  .ret)
  .skip))
  (.seq (.region [⟨some 4, .move (.c (.int .i64 0)), none, []⟩] .seq)
  .ret))))))))⟩
/-- cmp.Compare[uint8] -/
def DF81 : AFunc := ⟨20, [.tmp 4], (.seq (.region [⟨some 4, .move (.c (.int .i64 0)), none, []⟩] .seq)
  (.seq (.region [⟨some 7, .move (.t 0), none, []⟩,
    ⟨some 8, .callF 139 [(.t 7)], none, []⟩,
    ⟨some 5, .move (.t 8), none, []⟩] .seq)
  (.seq (.region [⟨some 9, .move (.t 1), none, []⟩,
    ⟨some 10, .callF 139 [(.t 9)], none, []⟩,
    ⟨some 6, .move (.t 10), none, []⟩] .seq)
  (.seq (.seq (.region [⟨some 11, .move (.t 5), none, []⟩] .seq)
  (.cond (.t 11) (.seq (.seq (.region [⟨some 12, .move (.t 6), none, []⟩] .seq)
  (.cond (.t 12) (.seq (.region [⟨some 4, .move (.c (.int .i64 0)), none, []⟩] .seq)
  .ret)
  .skip))
  (.seq (.region [⟨some 4, .move (.c (.int .i64 (-1))), none, []⟩] .seq)
  .ret))
  .skip))
  (.seq (.seq (.region [⟨some 13, .move (.t 6), none, []⟩] .seq)
  (.cond (.t 13) (.seq (.region [⟨some 4, .move (.c (.int .i64 1)), none, []⟩] .seq)
  .ret)
  .skip))
  (.seq (.seq (.region [⟨some 14, .move (.t 0), none, []⟩,
    ⟨some 15, .move (.t 1), none, []⟩,
    ⟨some 16, .bin .lss (.t 14) (.t 15), none, []⟩] .seq)
  (.cond (.t 16) (.seq (.region [⟨some 4, .move (.c (.int .i64 (-1))), none, []⟩] .seq)
  .ret)
  .skip))
  (.seq (.seq (.region [⟨some 17, .move (.t 0), none, []⟩,
    ⟨some 18, .move (.t 1), none, []⟩,
    ⟨some 19, .bin .gtr (.t 17) (.t 18), none, []⟩] .seq)
  (.cond (.t 19) (.seq (.region [⟨some 4, .move (.c (.int .i64 1)), none, []⟩] .seq)
  .ret)
  .skip))
  (.seq (.region [⟨some 4, .move (.c (.int .i64 0)), none, []⟩] .seq)
  .ret))))))))⟩
/-- anabranch/win.Of -/
def DF85 : AFunc := ⟨33, [.tmp 4], (.seq (.region [⟨some 2, .box 84 (.t 0), none, []⟩,
    ⟨some 3, .box 2 (.t 1), none, []⟩,
    ⟨some 4, .move (.c .sl0), none, []⟩] .seq)
  (.seq (.seq (.region [⟨some 6, .loadN 4 (.t 2), none, []⟩,
    ⟨some 7, .callF 140 [(.t 6)], none, []⟩,
    ⟨some 8, .bin .neq (.t 7) (.c (.int .i64 0)), none, []⟩,
    ⟨some 9, .move (.t 8), none, []⟩,
    ⟨some 10, .loadN 4 (.t 2), some (9, false), []⟩,
    ⟨some 11, .callF 49 [(.t 10)], some (9, false), []⟩,
    ⟨some 12, .bin .neq (.t 11) (.c (.int .i64 1)), some (9, false), []⟩,
    ⟨some 13, .pick (.t 9) (.c (.bool true)) (.t 12), none, []⟩,
    ⟨some 14, .move (.t 13), none, []⟩,
    ⟨some 15, .load1 (.t 3), some (14, false), []⟩,
    ⟨some 16, .bin .lss (.t 15) (.c (.int .i64 (-1152921504606846976))), some (14, false), []⟩,
    ⟨some 17, .pick (.t 14) (.c (.bool true)) (.t 16), none, []⟩,
    ⟨some 18, .move (.t 17), none, []⟩,
    ⟨some 19, .load1 (.t 3), some (18, false), []⟩,
    ⟨some 20, .bin .gtr (.t 19) (.c (.int .i64 1152921504606846976)), some (18, false), []⟩,
    ⟨some 21, .pick (.t 18) (.c (.bool true)) (.t 20), none, []⟩] .seq)
  (.cond (.t 21) (.seq (.region [⟨some 4, .move (.c .sl0), none, []⟩] .seq)
  .ret)
  .skip))
  (.seq (.region [⟨some 22, .mkMap none, none, []⟩,
    ⟨some 23, .mkFunc 141 [] [(.t 3), (.t 2)], none, []⟩,
    ⟨none, .mapUpdate [(.i .i64)] false (.t 22) (.c (.int .i64 4)) (.t 23), none, []⟩,
    ⟨some 24, .mkFunc 143 [] [(.t 3), (.t 2)], none, []⟩,
    ⟨none, .mapUpdate [(.i .i64)] false (.t 22) (.c (.int .i64 5)) (.t 24), none, []⟩,
    ⟨some 25, .mkFunc 144 [] [(.t 3), (.t 2)], none, []⟩,
    ⟨none, .mapUpdate [(.i .i64)] false (.t 22) (.c (.int .i64 6)) (.t 25), none, []⟩,
    ⟨some 26, .move (.t 22), none, []⟩,
    ⟨some 5, .move (.t 26), none, []⟩] .seq)
  (.seq (.region [⟨some 27, .move (.t 5), none, []⟩,
    ⟨some 28, .fieldAddr 0 (.t 2), none, []⟩,
    ⟨some 29, .load1 (.t 28), none, []⟩,
    ⟨some 30, .lookup [(.i .i64)] false .fn0 (.t 27) (.t 29) false, none, []⟩,
    ⟨some 31, .callV (.t 30) [], none, []⟩,
    ⟨some 32, .callF 146 [(.t 31)], none, []⟩,
    ⟨some 4, .move (.t 32), none, []⟩] .seq)
  .ret))))⟩
/-- anabranch/table.within -/
def DF86 : AFunc := ⟨15, [.tmp 6], (.seq (.region [⟨some 6, .move (.c (.bool false)), none, []⟩] .seq)
  (.seq (.region [⟨some 7, .move (.t 0), none, []⟩,
    ⟨some 8, .move (.t 1), none, []⟩,
    ⟨some 9, .bin .geq (.t 7) (.t 8), none, []⟩,
    ⟨some 10, .move (.t 9), none, []⟩,
    ⟨some 11, .move (.t 0), some (10, true), []⟩,
    ⟨some 12, .move (.t 2), some (10, true), []⟩,
    ⟨some 13, .bin .leq (.t 11) (.t 12), some (10, true), []⟩,
    ⟨some 14, .pick (.t 10) (.t 13) (.c (.bool false)), none, []⟩,
    ⟨some 6, .move (.t 14), none, []⟩] .seq)
  .ret))⟩
/-- anabranch/acc.results -/
def DF87 : AFunc := ⟨2, [.cellN 0 4], (.seq (.region [⟨some 0, .alloc 172 [.fn0, .fn0, .fn0, .fn0], none, []⟩] .seq)
  (.seq (.region [⟨some 1, .build [.fn0, .fn0, .fn0, .fn0] [(0, 1, (.c (.fn 147 [] []))), (2, 1, (.c (.fn 148 [] []))), (3, 1, (.c (.fn 149 [] []))), (1, 1, (.c (.fn 150 [] [])))], none, []⟩,
    ⟨none, .store 4 (.t 0) (.t 1), none, []⟩] .seq)
  .ret))⟩
/-- anabranch/plan.Check -/
def DF88 : AFunc := ⟨43, [.cell1 2, .cell1 3], (.seq (.region [⟨some 1, .box 55 (.t 0), none, []⟩,
    ⟨some 2, .alloc 3 [(.int .i64 0)], none, []⟩,
    ⟨some 3, .alloc 63 [(.int .i64 0)], none, []⟩] .seq)
  (.seq (.block 0 (.seq (.block 3 (.block 2 (.seq (.block 1 (.seq (.seq (.seq (.region [⟨some 8, .loadN 4 (.t 1), none, []⟩,
    ⟨some 9, .callF 151 [(.t 8)], none, []⟩,
    ⟨some 7, .move (.t 9), none, []⟩] .seq)
  (.cond (.t 7) (.exit 1)
  .skip))
  (.seq (.seq (.seq (.region [⟨some 11, .fieldAddr 2 (.t 1), none, []⟩,
    ⟨some 12, .load1 (.t 11), none, []⟩,
    ⟨some 13, .bin .lss (.t 12) (.c (.int .i64 0)), none, []⟩,
    ⟨some 10, .move (.t 13), none, []⟩] .seq)
  (.cond (.t 10) .skip
  (.region [⟨some 14, .fieldAddr 2 (.t 1), none, []⟩,
    ⟨some 15, .load1 (.t 14), none, []⟩,
    ⟨some 16, .bin .gtr (.t 15) (.c (.int .i64 1073741824)), none, []⟩,
    ⟨some 10, .move (.t 16), none, []⟩] .seq)))
  (.cond (.t 10) (.exit 2)
  .skip))
  (.seq (.seq (.region [⟨some 18, .fieldAddr 3 (.t 1), none, []⟩,
    ⟨some 19, .load1 (.t 18), none, []⟩,
    ⟨some 20, .bin .lss (.t 19) (.c (.int .i64 1)), none, []⟩,
    ⟨some 17, .move (.t 20), none, []⟩] .seq)
  (.cond (.t 17) .skip
  (.region [⟨some 21, .fieldAddr 3 (.t 1), none, []⟩,
    ⟨some 22, .load1 (.t 21), none, []⟩,
    ⟨some 23, .bin .gtr (.t 22) (.c (.int .i64 1073741824)), none, []⟩,
    ⟨some 17, .move (.t 23), none, []⟩] .seq)))
  (.cond (.t 17) (.exit 3)
  .skip))))
  (.exit 0)))
  (.seq (.seq (.region [⟨none, .store 1 (.t 2) (.c (.int .i64 (-1))), none, []⟩,
    ⟨none, .store 1 (.t 3) (.c (.int .i64 4)), none, []⟩] .seq)
  .ret)
  (.exit 0)))))
  (.seq (.seq (.region [⟨none, .store 1 (.t 2) (.c (.int .i64 (-1))), none, []⟩,
    ⟨none, .store 1 (.t 3) (.c (.int .i64 2)), none, []⟩] .seq)
  .ret)
  (.exit 0))))
  (.seq (.region [⟨some 4, .alloc 3 [(.int .i64 0)], none, []⟩,
    ⟨none, .store 1 (.t 4) (.c (.int .i64 0)), none, []⟩] .seq)
  (.seq (.seq (.region [⟨some 24, .loadN 4 (.t 1), none, []⟩,
    ⟨some 25, .callF 152 [(.t 24)], none, []⟩] .seq)
  (.block 4 (.rangeFunc (.t 25) [26, 27] (.seq (.region [⟨some 5, .alloc 211 [(.int .i64 0), (.int .i64 0)], none, []⟩,
    ⟨none, .store 2 (.t 5) (.t 26), none, []⟩] .seq)
  (.region [⟨some 6, .alloc 84 [(.int .i64 0), (.int .i64 0), (.int .i64 0), (.int .i64 0)], none, []⟩,
    ⟨none, .store 4 (.t 6) (.t 27), none, []⟩] .seq))
  (.block 5 (.seq (.block 6 (.seq (.region [⟨some 29, .loadN 4 (.t 6), none, []⟩,
    ⟨some 30, .callF 140 [(.t 29)], none, []⟩,
    ⟨some 31, .bin .neq (.t 30) (.c (.int .i64 0)), none, []⟩,
    ⟨some 28, .move (.t 31), none, []⟩] .seq)
  (.cond (.t 28) (.seq (.region [⟨some 32, .load1 (.t 4), none, []⟩,
    ⟨none, .store 1 (.t 2) (.t 32), none, []⟩,
    ⟨none, .store 1 (.t 3) (.c (.int .i64 13)), none, []⟩] .seq)
  .ret)
  (.seq (.region [⟨some 34, .loadN 2 (.t 5), none, [1]⟩,
    ⟨some 35, .callF 120 [(.t 34)], none, []⟩,
    ⟨some 36, .loadN 4 (.t 6), none, [1, 3]⟩,
    ⟨some 37, .callF 49 [(.t 36)], none, []⟩,
    ⟨some 38, .bin .eql (.t 37) (.c (.int .i64 0)), none, []⟩,
    ⟨some 39, .eqb false (.t 35) (.t 38), none, []⟩,
    ⟨some 33, .move (.t 39), none, []⟩] .sink)
  (.cond (.t 33) (.seq (.region [⟨some 40, .load1 (.t 4), none, []⟩,
    ⟨none, .store 1 (.t 2) (.t 40), none, []⟩,
    ⟨none, .store 1 (.t 3) (.c (.int .i64 14)), none, []⟩] .seq)
  .ret)
  .skip)))))
  (.region [⟨some 41, .load1 (.t 4), none, []⟩,
    ⟨some 42, .bin .add (.t 41) (.c (.int .i64 1)), none, []⟩,
    ⟨none, .store 1 (.t 4) (.t 42), none, []⟩] .seq))))))
  (.seq (.region [⟨none, .store 1 (.t 2) (.c (.int .i64 (-1))), none, []⟩,
    ⟨none, .store 1 (.t 3) (.c (.int .i64 0)), none, []⟩] .seq)
  .ret)))))⟩
/-- anabranch/table.right -/
def DF89 : AFunc := ⟨28, [.tmp 2], (.seq (.region [⟨some 1, .box 57 (.t 0), none, []⟩,
    ⟨some 2, .move (.c (.bool false)), none, []⟩] .seq)
  (.seq (.region [⟨some 3, .fieldAddr 0 (.t 1), none, []⟩,
    ⟨some 4, .load1 (.t 3), none, []⟩,
    ⟨some 5, .callF 86 [(.t 4), (.c (.int .i64 1)), (.c (.int .i64 3))], none, []⟩,
    ⟨some 6, .move (.t 5), none, []⟩,
    ⟨some 7, .fieldAddr 1 (.t 1), some (6, true), []⟩,
    ⟨some 8, .load1 (.t 7), some (6, true), []⟩,
    ⟨some 9, .fieldAddr 0 (.t 1), some (6, true), []⟩,
    ⟨some 10, .load1 (.t 9), some (6, true), []⟩,
    ⟨some 11, .callF 86 [(.t 8), (.c (.int .i64 1)), (.t 10)], some (6, true), []⟩,
    ⟨some 12, .pick (.t 6) (.t 11) (.c (.bool false)), none, []⟩,
    ⟨some 13, .move (.t 12), none, []⟩,
    ⟨some 14, .fieldAddr 2 (.t 1), some (13, true), []⟩,
    ⟨some 15, .load1 (.t 14), some (13, true), []⟩,
    ⟨some 16, .callF 86 [(.t 15), (.c (.int .i64 1)), (.c (.int .i64 16))], some (13, true), []⟩,
    ⟨some 17, .pick (.t 13) (.t 16) (.c (.bool false)), none, []⟩,
    ⟨some 18, .move (.t 17), none, []⟩,
    ⟨some 19, .fieldAddr 3 (.t 1), some (18, true), []⟩,
    ⟨some 20, .load1 (.t 19), some (18, true), []⟩,
    ⟨some 21, .callF 86 [(.t 20), (.c (.int .i64 1)), (.c (.int .i64 8))], some (18, true), []⟩,
    ⟨some 22, .pick (.t 18) (.t 21) (.c (.bool false)), none, []⟩,
    ⟨some 23, .move (.t 22), none, []⟩,
    ⟨some 24, .fieldAddr 4 (.t 1), some (23, true), []⟩,
    ⟨some 25, .load1 (.t 24), some (23, true), []⟩,
    ⟨some 26, .callF 86 [(.t 25), (.c (.int .i64 4)), (.c (.int .i64 64))], some (23, true), []⟩,
    ⟨some 27, .pick (.t 23) (.t 26) (.c (.bool false)), none, []⟩,
    ⟨some 2, .move (.t 27), none, []⟩] .seq)
  .ret))⟩
/-- anabranch/table.own -/
def DF90 : AFunc := ⟨32, [.cellN 2 4], (.seq (.region [⟨some 1, .box 55 (.t 0), none, []⟩,
    ⟨some 2, .alloc 55 [.sl0, .sl0, (.int .i64 0), (.int .i64 0)], none, []⟩] .seq)
  (.seq (.region [⟨some 4, .fieldAddr 0 (.t 1), none, []⟩,
    ⟨some 5, .load1 (.t 4), none, []⟩,
    ⟨some 6, .callF 153 [(.t 5)], none, []⟩,
    ⟨some 7, .fieldAddr 0 (.t 1), none, []⟩,
    ⟨none, .store 1 (.t 7) (.t 6), none, []⟩] .seq)
  (.seq (.region [⟨some 8, .fieldAddr 1 (.t 1), none, []⟩,
    ⟨some 9, .load1 (.t 8), none, []⟩,
    ⟨some 10, .callF 154 [(.t 9)], none, []⟩,
    ⟨some 11, .fieldAddr 1 (.t 1), none, []⟩,
    ⟨none, .store 1 (.t 11) (.t 10), none, []⟩] .seq)
  (.seq (.seq (.region [⟨some 12, .fieldAddr 1 (.t 1), none, []⟩,
    ⟨some 13, .load1 (.t 12), none, []⟩,
    ⟨some 14, .len .sl (.t 13), none, []⟩,
    ⟨some 15, .move (.c (.int .i64 0)), none, []⟩] .seq)
  (.block 0 (.loop (.seq (.region [⟨some 16, .bin .lss (.t 15) (.t 14), none, []⟩] .seq)
  (.seq (.cond (.t 16) .skip
  (.exit 0))
  (.seq (.block 1 (.seq (.region [⟨some 17, .move (.t 15), none, []⟩,
    ⟨some 3, .move (.t 17), none, []⟩] .seq)
  (.region [⟨some 18, .fieldAddr 1 (.t 1), none, []⟩,
    ⟨some 19, .load1 (.t 18), none, [9, 12]⟩,
    ⟨some 20, .move (.t 3), none, []⟩,
    ⟨some 21, .fieldAddr 1 (.t 1), none, []⟩,
    ⟨some 22, .load1 (.t 21), none, [9]⟩,
    ⟨some 23, .move (.t 3), none, []⟩,
    ⟨some 24, .indexAddrS 5 (.t 22) (.t 23), none, []⟩,
    ⟨some 25, .fieldAddr 4 (.t 24), none, []⟩,
    ⟨some 26, .load1 (.t 25), none, [9]⟩,
    ⟨some 27, .callF 153 [(.t 26)], none, []⟩,
    ⟨some 28, .indexAddrS 5 (.t 19) (.t 20), none, []⟩,
    ⟨some 29, .fieldAddr 4 (.t 28), none, []⟩,
    ⟨none, .store 1 (.t 29) (.t 27), none, []⟩] .sink)))
  (.region [⟨some 30, .bin .add (.t 15) (.c (.int .i64 1)), none, []⟩,
    ⟨some 15, .move (.t 30), none, []⟩] .seq)))))))
  (.seq (.region [⟨some 31, .loadN 4 (.t 1), none, []⟩,
    ⟨none, .store 4 (.t 2) (.t 31), none, []⟩] .seq)
  .ret)))))⟩
/-- anabranch/plan.Nodes -/
def DF91 : AFunc := ⟨14, [.cell1 2], (.seq (.region [⟨some 1, .box 55 (.t 0), none, []⟩,
    ⟨some 2, .alloc 52 [.sl0], none, []⟩] .seq)
  (.seq (.seq (.region [⟨some 5, .loadN 4 (.t 1), none, []⟩,
    ⟨some 6, .callF 152 [(.t 5)], none, []⟩] .seq)
  (.block 0 (.rangeFunc (.t 6) [7, 8] (.region [⟨some 4, .alloc 84 [(.int .i64 0), (.int .i64 0), (.int .i64 0), (.int .i64 0)], none, []⟩,
    ⟨none, .store 4 (.t 4) (.t 8), none, []⟩] .seq)
  (.block 1 (.region [⟨some 9, .load1 (.t 2), none, []⟩,
    ⟨some 10, .loadN 4 (.t 4), none, []⟩,
    ⟨some 11, .buildSlice 84 1 4 [(.int .i64 0), (.int .i64 0), (.int .i64 0), (.int .i64 0)] [(0, 4, (.t 10))], none, []⟩,
    ⟨some 12, .append 84 4 32 [(.int .i64 0), (.int .i64 0), (.int .i64 0), (.int .i64 0)] (.t 9) (.t 11), none, []⟩,
    ⟨none, .store 1 (.t 2) (.t 12), none, []⟩] .seq)))))
  (.seq (.region [⟨some 13, .load1 (.t 2), none, []⟩,
    ⟨none, .store 1 (.t 2) (.t 13), none, []⟩] .seq)
  .ret)))⟩
/-- anabranch/bin.First -/
def DF92 : AFunc := ⟨26, [.cellN 2 8], (.seq (.region [⟨some 2, .alloc 175 [(.int .i64 0), (.int .i64 0), (.int .i64 0), (.int .i64 0), (.int .i64 0), (.int .i64 0), (.int .i64 0), (.int .i64 0)], none, []⟩] .seq)
  (.seq (.seq (.region [⟨some 6, .move (.t 0), none, []⟩,
    ⟨some 7, .bin .lss (.t 6) (.c (.int .i64 1)), none, []⟩,
    ⟨some 8, .move (.t 7), none, []⟩,
    ⟨some 9, .move (.t 0), some (8, false), []⟩,
    ⟨some 10, .bin .gtr (.t 9) (.c (.int .i64 3)), some (8, false), []⟩,
    ⟨some 11, .pick (.t 8) (.c (.bool true)) (.t 10), none, []⟩] .seq)
  (.cond (.t 11) (.seq (.region [⟨some 12, .loadN 8 (.t 2), none, []⟩,
    ⟨none, .store 8 (.t 2) (.t 12), none, []⟩] .seq)
  .ret)
  .skip))
  (.seq (.region [⟨some 13, .build [(.int .i64 0), (.int .i64 0), (.int .i64 0)] [(0, 1, (.c (.int .i64 1))), (1, 1, (.c (.int .i64 2))), (2, 1, (.c (.int .i64 3)))], none, []⟩,
    ⟨some 3, .alloc 238 [(.int .i64 0), (.int .i64 0), (.int .i64 0)], none, []⟩,
    ⟨none, .store 3 (.t 3) (.t 13), none, []⟩] .seq)
  (.seq (.region [⟨some 4, .alloc 3 [(.int .i64 0)], none, []⟩,
    ⟨none, .store 1 (.t 4) (.c (.int .i64 0)), none, []⟩] .seq)
  (.seq (.seq (.region [⟨some 14, .move (.t 0), none, []⟩,
    ⟨some 15, .sliceArr 3 1 (.t 3) none (some (.t 14)) none, none, []⟩,
    ⟨some 16, .callF 155 [(.t 15)], none, []⟩] .seq)
  (.block 0 (.rangeFunc (.t 16) [17] (.region [⟨some 5, .move (.t 17), none, []⟩] .seq)
  (.block 1 (.seq (.region [⟨some 18, .load1 (.t 4), none, []⟩,
    ⟨some 19, .move (.t 5), none, []⟩,
    ⟨some 20, .indexAddrA 8 1 (.t 2) (.t 18), none, []⟩,
    ⟨none, .store 1 (.t 20) (.t 19), none, []⟩] .seq)
  (.seq (.region [⟨some 21, .load1 (.t 4), none, []⟩,
    ⟨some 22, .bin .add (.t 21) (.c (.int .i64 1)), none, []⟩,
    ⟨none, .store 1 (.t 4) (.t 22), none, []⟩] .seq)
  (.seq (.region [⟨some 23, .load1 (.t 4), none, []⟩,
    ⟨some 24, .bin .eql (.t 23) (.c (.int .i64 8)), none, []⟩] .seq)
  (.cond (.t 24) (.exit 0)
  .skip))))))))
  (.seq (.region [⟨some 25, .loadN 8 (.t 2), none, []⟩,
    ⟨none, .store 8 (.t 2) (.t 25), none, []⟩] .seq)
  .ret))))))⟩
/-- anabranch/oper.kinds -/
def DF93 : AFunc := ⟨10, [.cellN 0 24], (.seq (.region [⟨some 0, .alloc 183 [(.int .i64 0), .fn0, .fn0, (.int .i64 0), .fn0, .fn0, (.int .i64 0), .fn0, .fn0, (.int .i64 0), .fn0, .fn0, (.int .i64 0), .fn0, .fn0, (.int .i64 0), .fn0, .fn0, (.int .i64 0), .fn0, .fn0, (.int .i64 0), .fn0, .fn0], none, []⟩] .seq)
  (.seq (.region [⟨some 1, .build [(.int .i64 0), .fn0, .fn0] [(0, 1, (.c (.int .i64 0))), (1, 1, (.c (.fn 156 [] []))), (2, 1, (.c (.fn 157 [] [])))], none, []⟩,
    ⟨some 2, .build [(.int .i64 0), .fn0, .fn0] [(0, 1, (.c (.int .i64 0))), (1, 1, (.c (.fn 158 [] []))), (2, 1, (.c (.fn 160 [] [])))], none, []⟩,
    ⟨some 3, .build [(.int .i64 0), .fn0, .fn0] [(0, 1, (.c (.int .i64 0))), (1, 1, (.c (.fn 161 [] []))), (2, 1, (.c (.fn 163 [] [])))], none, []⟩,
    ⟨some 4, .build [(.int .i64 0), .fn0, .fn0] [(0, 1, (.c (.int .i64 0))), (1, 1, (.c (.fn 164 [] []))), (2, 1, (.c (.fn 165 [] [])))], none, []⟩,
    ⟨some 5, .build [(.int .i64 0), .fn0, .fn0] [(0, 1, (.c (.int .i64 1))), (1, 1, (.c (.fn 166 [] [])))], none, []⟩,
    ⟨some 6, .build [(.int .i64 0), .fn0, .fn0] [(0, 1, (.c (.int .i64 1))), (1, 1, (.c (.fn 167 [] [])))], none, []⟩,
    ⟨some 7, .build [(.int .i64 0), .fn0, .fn0] [(0, 1, (.c (.int .i64 1))), (1, 1, (.c (.fn 166 [] [])))], none, []⟩,
    ⟨some 8, .build [(.int .i64 0), .fn0, .fn0] [(0, 1, (.c (.int .i64 2))), (1, 1, (.c (.fn 166 [] [])))], none, []⟩,
    ⟨some 9, .build [(.int .i64 0), .fn0, .fn0, (.int .i64 0), .fn0, .fn0, (.int .i64 0), .fn0, .fn0, (.int .i64 0), .fn0, .fn0, (.int .i64 0), .fn0, .fn0, (.int .i64 0), .fn0, .fn0, (.int .i64 0), .fn0, .fn0, (.int .i64 0), .fn0, .fn0] [(0, 3, (.t 1)), (3, 3, (.t 2)), (6, 3, (.t 3)), (9, 3, (.t 4)), (12, 3, (.t 5)), (15, 3, (.t 6)), (18, 3, (.t 7)), (21, 3, (.t 8))], none, []⟩,
    ⟨none, .store 24 (.t 0) (.t 9), none, []⟩] .seq)
  .ret))⟩
/-- (*anabranch/table.Table).after -/
def DF94 : AFunc := ⟨25, [.tmp 4], (.seq (.region [⟨some 4, .move (.c .sl0), none, []⟩] .seq)
  (.seq (.seq (.region [⟨some 5, .move (.t 0), none, []⟩,
    ⟨some 6, .isNil .p false (.t 5) (.c .ptr0), none, []⟩,
    ⟨some 7, .move (.t 6), none, []⟩,
    ⟨some 8, .move (.t 1), some (7, false), []⟩,
    ⟨some 9, .move (.t 0), some (7, false), []⟩,
    ⟨some 10, .nilCheck (.t 9), some (7, false), []⟩,
    ⟨some 11, .fieldAddr 19 (.t 10), some (7, false), []⟩,
    ⟨some 12, .load1 (.t 11), some (7, false), []⟩,
    ⟨some 13, .len .sl (.t 12), some (7, false), []⟩,
    ⟨some 14, .bin .sub (.t 13) (.c (.int .i64 1)), some (7, false), []⟩,
    ⟨some 15, .callF 86 [(.t 8), (.c (.int .i64 0)), (.t 14)], some (7, false), []⟩,
    ⟨some 16, .un .not (.t 15), some (7, false), []⟩,
    ⟨some 17, .pick (.t 7) (.c (.bool true)) (.t 16), none, []⟩] .seq)
  (.cond (.t 17) (.seq (.region [⟨some 4, .move (.c .sl0), none, []⟩] .seq)
  .ret)
  .skip))
  (.seq (.region [⟨some 18, .move (.t 0), none, []⟩,
    ⟨some 19, .nilCheck (.t 18), none, []⟩,
    ⟨some 20, .fieldAddr 20 (.t 19), none, []⟩,
    ⟨some 21, .load1 (.t 20), none, []⟩,
    ⟨some 22, .move (.t 1), none, []⟩,
    ⟨some 23, .indexAddrS 1 (.t 21) (.t 22), none, []⟩,
    ⟨some 24, .load1 (.t 23), none, []⟩,
    ⟨some 4, .move (.t 24), none, []⟩] .seq)
  .ret)))⟩
/-- anabranch/win.Meet -/
def DF99 : AFunc := ⟨17, [.tmp 4], (.seq (.region [⟨some 2, .box 96 (.t 0), none, []⟩,
    ⟨some 3, .box 96 (.t 1), none, []⟩,
    ⟨some 4, .move (.c (.bool false)), none, []⟩] .seq)
  (.seq (.region [⟨some 5, .indexAddrA 2 1 (.t 2) (.c (.int .i64 0)), none, []⟩,
    ⟨some 6, .load1 (.t 5), none, []⟩,
    ⟨some 7, .indexAddrA 2 1 (.t 3) (.c (.int .i64 1)), none, []⟩,
    ⟨some 8, .load1 (.t 7), none, []⟩,
    ⟨some 9, .bin .lss (.t 6) (.t 8), none, []⟩,
    ⟨some 10, .move (.t 9), none, []⟩,
    ⟨some 11, .indexAddrA 2 1 (.t 3) (.c (.int .i64 0)), some (10, true), []⟩,
    ⟨some 12, .load1 (.t 11), some (10, true), []⟩,
    ⟨some 13, .indexAddrA 2 1 (.t 2) (.c (.int .i64 1)), some (10, true), []⟩,
    ⟨some 14, .load1 (.t 13), some (10, true), []⟩,
    ⟨some 15, .bin .lss (.t 12) (.t 14), some (10, true), []⟩,
    ⟨some 16, .pick (.t 10) (.t 15) (.c (.bool false)), none, []⟩,
    ⟨some 4, .move (.t 16), none, []⟩] .seq)
  .ret))⟩
/-- anabranch/win.Join -/
def DF101 : AFunc := ⟨16, [.cellN 4 2], (.seq (.region [⟨some 2, .box 96 (.t 0), none, []⟩,
    ⟨some 3, .box 96 (.t 1), none, []⟩,
    ⟨some 4, .alloc 96 [(.int .i64 0), (.int .i64 0)], none, []⟩] .seq)
  (.seq (.region [⟨some 5, .indexAddrA 2 1 (.t 2) (.c (.int .i64 0)), none, []⟩,
    ⟨some 6, .load1 (.t 5), none, []⟩,
    ⟨some 7, .indexAddrA 2 1 (.t 3) (.c (.int .i64 0)), none, []⟩,
    ⟨some 8, .load1 (.t 7), none, []⟩,
    ⟨some 9, .maxmin false [(.t 6), (.t 8)], none, []⟩,
    ⟨some 10, .indexAddrA 2 1 (.t 2) (.c (.int .i64 1)), none, []⟩,
    ⟨some 11, .load1 (.t 10), none, []⟩,
    ⟨some 12, .indexAddrA 2 1 (.t 3) (.c (.int .i64 1)), none, []⟩,
    ⟨some 13, .load1 (.t 12), none, []⟩,
    ⟨some 14, .maxmin true [(.t 11), (.t 13)], none, []⟩,
    ⟨some 15, .build [(.int .i64 0), (.int .i64 0)] [(0, 1, (.t 9)), (1, 1, (.t 14))], none, []⟩,
    ⟨none, .store 2 (.t 4) (.t 15), none, []⟩] .seq)
  .ret))⟩
/-- anabranch/acc.Merge -/
def DF102 : AFunc := ⟨51, [.cellN 4 5], (.seq (.region [⟨some 2, .box 26 (.t 0), none, []⟩,
    ⟨some 3, .box 26 (.t 1), none, []⟩,
    ⟨some 4, .alloc 26 [(.int .i64 0), (.int .i64 0), (.int .u64 0), (.int .i64 0), (.int .i64 0)], none, []⟩] .seq)
  (.seq (.seq (.region [⟨some 7, .build [(.int .i64 0), (.int .i64 0), (.int .u64 0), (.int .i64 0), (.int .i64 0)] [], none, []⟩] .seq)
  (.block 0 (.seq (.region [⟨some 9, .loadN 5 (.t 2), none, []⟩,
    ⟨some 10, .callF 169 [(.t 9)], none, []⟩,
    ⟨some 11, .eqs [.i, .i, .i, .i, .i] false (.t 7) (.t 10), none, []⟩,
    ⟨some 8, .move (.t 11), none, []⟩] .seq)
  (.cond (.t 8) (.seq (.region [⟨some 12, .loadN 5 (.t 3), none, []⟩,
    ⟨none, .store 5 (.t 4) (.t 12), none, []⟩] .seq)
  .ret)
  (.seq (.region [⟨some 14, .loadN 5 (.t 3), none, []⟩,
    ⟨some 15, .callF 169 [(.t 14)], none, []⟩,
    ⟨some 16, .eqs [.i, .i, .i, .i, .i] false (.t 7) (.t 15), none, []⟩,
    ⟨some 13, .move (.t 16), none, []⟩] .seq)
  (.cond (.t 13) (.seq (.region [⟨some 17, .loadN 5 (.t 2), none, []⟩,
    ⟨none, .store 5 (.t 4) (.t 17), none, []⟩] .seq)
  .ret)
  .skip))))))
  (.seq (.region [⟨some 19, .fieldAddr 2 (.t 2), none, []⟩,
    ⟨some 20, .load1 (.t 19), none, []⟩,
    ⟨some 21, .fieldAddr 2 (.t 3), none, []⟩,
    ⟨some 22, .load1 (.t 21), none, []⟩,
    ⟨some 23, .add64 (.t 20) (.t 22) (.c (.int .u64 0)), none, []⟩,
    ⟨some 18, .move (.t 23), none, []⟩,
    ⟨some 24, .extract (.t 18) 0, none, []⟩,
    ⟨some 25, .extract (.t 18) 1, none, []⟩,
    ⟨some 5, .move (.t 24), none, []⟩,
    ⟨some 6, .move (.t 25), none, []⟩] .seq)
  (.seq (.region [⟨some 26, .fieldAddr 0 (.t 2), none, []⟩,
    ⟨some 27, .load1 (.t 26), none, []⟩,
    ⟨some 28, .fieldAddr 0 (.t 3), none, []⟩,
    ⟨some 29, .load1 (.t 28), none, []⟩,
    ⟨some 30, .bin .add (.t 27) (.t 29), none, []⟩,
    ⟨some 31, .fieldAddr 1 (.t 2), none, []⟩,
    ⟨some 32, .load1 (.t 31), none, []⟩,
    ⟨some 33, .fieldAddr 1 (.t 3), none, []⟩,
    ⟨some 34, .load1 (.t 33), none, []⟩,
    ⟨some 35, .bin .add (.t 32) (.t 34), none, []⟩,
    ⟨some 36, .move (.t 6), none, []⟩,
    ⟨some 37, .conv .i64 (.t 36), none, []⟩,
    ⟨some 38, .bin .add (.t 35) (.t 37), none, []⟩,
    ⟨some 39, .move (.t 5), none, []⟩,
    ⟨some 40, .fieldAddr 3 (.t 2), none, []⟩,
    ⟨some 41, .load1 (.t 40), none, []⟩,
    ⟨some 42, .fieldAddr 3 (.t 3), none, []⟩,
    ⟨some 43, .load1 (.t 42), none, []⟩,
    ⟨some 44, .maxmin false [(.t 41), (.t 43)], none, []⟩,
    ⟨some 45, .fieldAddr 4 (.t 2), none, []⟩,
    ⟨some 46, .load1 (.t 45), none, []⟩,
    ⟨some 47, .fieldAddr 4 (.t 3), none, []⟩,
    ⟨some 48, .load1 (.t 47), none, []⟩,
    ⟨some 49, .maxmin true [(.t 46), (.t 48)], none, []⟩,
    ⟨some 50, .build [(.int .i64 0), (.int .i64 0), (.int .u64 0), (.int .i64 0), (.int .i64 0)] [(0, 1, (.t 30)), (1, 1, (.t 38)), (2, 1, (.t 39)), (3, 1, (.t 44)), (4, 1, (.t 49))], none, []⟩,
    ⟨none, .store 5 (.t 4) (.t 50), none, []⟩] .seq)
  .ret))))⟩
/-- (*anabranch/table.Table).Try -/
def DF104 : AFunc := ⟨49, [.cell1 6], (.seq (.region [⟨some 4, .box 86 (.t 1), none, []⟩,
    ⟨some 6, .alloc 63 [(.int .i64 0)], none, []⟩] .seq)
  (.seq (.seq (.region [⟨some 8, .move (.t 0), none, []⟩,
    ⟨some 9, .isNil .p false (.t 8) (.c .ptr0), none, []⟩] .seq)
  (.cond (.t 9) (.seq (.region [⟨none, .store 1 (.t 6) (.c (.int .i64 1)), none, []⟩] .seq)
  .ret)
  .skip))
  (.seq (.region [⟨none, .defer (.c (.fn 173 [] [])) [(.t 6)], none, []⟩] .seq)
  (.seq (.region [⟨some 10, .move (.t 0), none, []⟩,
    ⟨some 11, .nilCheck (.t 10), none, []⟩,
    ⟨some 12, .fieldAddr 9 (.t 11), none, []⟩,
    ⟨some 13, .load1 (.t 12), none, []⟩,
    ⟨some 14, .len .sl (.t 13), none, []⟩,
    ⟨some 15, .bin .lss (.t 14) (.c (.int .i64 64)), none, []⟩,
    ⟨some 16, .callF 174 [(.t 15), (.c (.int .i64 8))], none, []⟩] .seq)
  (.seq (.region [⟨some 17, .fieldAddr 0 (.t 4), none, []⟩,
    ⟨some 18, .load1 (.t 17), none, []⟩,
    ⟨some 19, .callF 86 [(.t 18), (.c (.int .i64 0)), (.c (.int .i64 3))], none, []⟩,
    ⟨some 20, .callF 174 [(.t 19), (.c (.int .i64 6))], none, []⟩] .seq)
  (.seq (.region [⟨some 21, .fieldAddr 1 (.t 4), none, []⟩,
    ⟨some 22, .load1 (.t 21), none, [4, 12]⟩,
    ⟨some 23, .move (.t 2), none, []⟩,
    ⟨some 24, .move (.t 0), none, []⟩,
    ⟨some 25, .callF 175 [(.t 24)], none, []⟩,
    ⟨some 26, .maxmin true [(.t 23), (.t 25)], none, []⟩,
    ⟨some 27, .bin .gtr (.t 22) (.t 26), none, []⟩,
    ⟨some 28, .move (.t 27), none, []⟩,
    ⟨some 29, .fieldAddr 1 (.t 4), some (28, true), []⟩,
    ⟨some 30, .load1 (.t 29), some (28, true), [12]⟩,
    ⟨some 31, .bin .leq (.t 30) (.c (.int .i64 1099511627776)), some (28, true), []⟩,
    ⟨some 32, .pick (.t 28) (.t 31) (.c (.bool false)), none, []⟩,
    ⟨some 33, .callF 174 [(.t 32), (.c (.int .i64 12))], none, []⟩] .sink)
  (.seq (.region [⟨some 34, .move (.t 0), none, []⟩,
    ⟨some 35, .mkFunc 176 [(.t 34)] [], none, []⟩,
    ⟨some 36, .move (.t 0), none, []⟩,
    ⟨some 37, .mkFunc 177 [(.t 36)] [], none, []⟩,
    ⟨some 38, .move (.t 0), none, []⟩,
    ⟨some 39, .mkFunc 178 [(.t 38)] [], none, []⟩,
    ⟨some 40, .move (.t 0), none, []⟩,
    ⟨some 41, .mkFunc 179 [(.t 40)] [], none, []⟩,
    ⟨some 42, .build [.fn0, .fn0, .fn0, .fn0] [(0, 1, (.t 35)), (1, 1, (.t 37)), (2, 1, (.t 39)), (3, 1, (.t 41))], none, []⟩,
    ⟨some 7, .alloc 253 [.fn0, .fn0, .fn0, .fn0], none, []⟩,
    ⟨none, .store 4 (.t 7) (.t 42), none, []⟩] .seq)
  (.seq (.region [⟨some 43, .fieldAddr 0 (.t 4), none, []⟩,
    ⟨some 44, .load1 (.t 43), none, [5]⟩,
    ⟨some 45, .indexAddrA 4 1 (.t 7) (.t 44), none, []⟩,
    ⟨some 46, .load1 (.t 45), none, [5]⟩,
    ⟨some 47, .loadN 10 (.t 4), none, [5]⟩,
    ⟨some 48, .callV (.t 46) [(.t 47)], none, []⟩] .sink)
  (.seq (.region [⟨none, .store 1 (.t 6) (.c (.int .i64 0)), none, []⟩] .seq)
  .ret)))))))))⟩
/-- slices.Clone[[]int,int] -/
def DF105 : AFunc := ⟨8, [.tmp 2], (.seq (.region [⟨some 2, .move (.c .sl0), none, []⟩] .seq)
  (.seq (.seq (.region [⟨some 3, .move (.t 0), none, []⟩,
    ⟨some 4, .isNil .s false (.t 3) (.c .sl0), none, []⟩] .seq)
  (.cond (.t 4) (.seq (.region [⟨some 2, .move (.c .sl0), none, []⟩] .seq)
  .ret)
  .skip))
  (.seq (.region [⟨some 5, .buildSlice 3 0 1 [] [], none, []⟩,
    ⟨some 6, .move (.t 0), none, []⟩,
    ⟨some 7, .append 3 1 8 [(.int .i64 0)] (.t 5) (.t 6), none, []⟩,
    ⟨some 2, .move (.t 7), none, []⟩] .seq)
  .ret)))⟩
/-- (*anabranch/table.Table).give -/
def DF106 : AFunc := ⟨56, [], (.seq (.region [⟨some 11, .move (.t 2), none, []⟩,
    ⟨some 12, .move (.t 3), none, []⟩,
    ⟨some 13, .callF 180 [(.t 11), (.t 12)], none, []⟩,
    ⟨some 14, .len .sl (.t 13), none, []⟩,
    ⟨some 15, .move (.c (.int .i64 0)), none, []⟩] .seq)
  (.block 0 (.loop (.seq (.region [⟨some 16, .bin .lss (.t 15) (.t 14), none, []⟩] .seq)
  (.seq (.cond (.t 16) .skip
  (.exit 0))
  (.seq (.block 1 (.seq (.region [⟨some 17, .move (.t 15), none, []⟩,
    ⟨some 18, .indexAddrS 1 (.t 13) (.t 15), none, []⟩,
    ⟨some 19, .load1 (.t 18), none, []⟩,
    ⟨some 8, .move (.t 17), none, []⟩,
    ⟨some 9, .move (.t 19), none, []⟩] .seq)
  (.seq (.region [⟨some 20, .move (.t 2), none, []⟩,
    ⟨some 21, .move (.t 8), none, []⟩,
    ⟨some 22, .indexAddrS 1 (.t 20) (.t 21), none, []⟩,
    ⟨some 23, .load1 (.t 22), none, []⟩,
    ⟨some 10, .move (.t 23), none, []⟩] .seq)
  (.region [⟨some 24, .move (.t 0), none, []⟩,
    ⟨some 25, .move (.t 10), none, []⟩,
    ⟨some 26, .move (.t 0), none, []⟩,
    ⟨some 27, .move (.t 10), none, []⟩,
    ⟨some 28, .nilCheck (.t 26), none, []⟩,
    ⟨some 29, .fieldAddr 10 (.t 28), none, []⟩,
    ⟨some 30, .indexAddrA 8 1 (.t 29) (.t 27), none, []⟩,
    ⟨some 31, .load1 (.t 30), none, [27]⟩,
    ⟨some 32, .move (.t 0), none, []⟩,
    ⟨some 33, .move (.t 10), none, []⟩,
    ⟨some 34, .nilCheck (.t 32), none, []⟩,
    ⟨some 35, .fieldAddr 10 (.t 34), none, []⟩,
    ⟨some 36, .indexAddrA 8 1 (.t 35) (.t 33), none, []⟩,
    ⟨some 37, .load1 (.t 36), none, [27]⟩,
    ⟨some 38, .len .sl (.t 37), none, []⟩,
    ⟨some 39, .move (.t 0), none, []⟩,
    ⟨some 40, .move (.t 10), none, []⟩,
    ⟨some 41, .nilCheck (.t 39), none, []⟩,
    ⟨some 42, .fieldAddr 10 (.t 41), none, []⟩,
    ⟨some 43, .indexAddrA 8 1 (.t 42) (.t 40), none, []⟩,
    ⟨some 44, .load1 (.t 43), none, [27]⟩,
    ⟨some 45, .len .sl (.t 44), none, []⟩,
    ⟨some 46, .slice 2 (.t 31) none (some (.t 38)) (some (.t 45)), none, []⟩,
    ⟨some 47, .move (.t 1), none, []⟩,
    ⟨some 48, .move (.t 9), none, []⟩,
    ⟨some 49, .build [(.int .i64 0), (.int .i64 0)] [(0, 1, (.t 47)), (1, 1, (.t 48))], none, []⟩,
    ⟨some 50, .buildSlice 178 1 2 [(.int .i64 0), (.int .i64 0)] [(0, 2, (.t 49))], none, []⟩,
    ⟨some 51, .append 178 2 16 [(.int .i64 0), (.int .i64 0)] (.t 46) (.t 50), none, []⟩,
    ⟨some 52, .nilCheck (.t 24), none, []⟩,
    ⟨some 53, .fieldAddr 10 (.t 52), none, []⟩,
    ⟨some 54, .indexAddrA 8 1 (.t 53) (.t 25), none, []⟩,
    ⟨none, .store 1 (.t 54) (.t 51), none, []⟩] .sink))))
  (.region [⟨some 55, .bin .add (.t 15) (.c (.int .i64 1)), none, []⟩,
    ⟨some 15, .move (.t 55), none, []⟩] .seq)))))))⟩
/-- slices.Sort[[]int,int] -/
def DF107 : AFunc := ⟨11, [], (.seq (.region [⟨some 3, .move (.t 0), none, []⟩,
    ⟨some 4, .len .sl (.t 3), none, []⟩,
    ⟨some 2, .move (.t 4), none, []⟩] .seq)
  (.region [⟨some 5, .move (.t 0), none, []⟩,
    ⟨some 6, .move (.t 2), none, []⟩,
    ⟨some 7, .move (.t 2), none, []⟩,
    ⟨some 8, .conv .u64 (.t 7), none, []⟩,
    ⟨some 9, .callF 182 [(.t 8)], none, []⟩,
    ⟨some 10, .callF 181 [(.t 5), (.c (.int .i64 0)), (.t 6), (.t 9)], none, []⟩] .seq))⟩
/-- slices.DeleteFunc[[]int,int] -/
def DF108 : AFunc := ⟨42, [.tmp 4], (.seq (.region [⟨some 4, .move (.c .sl0), none, []⟩] .seq)
  (.seq (.region [⟨some 8, .move (.t 0), none, []⟩,
    ⟨some 9, .move (.t 1), none, []⟩,
    ⟨some 10, .callF 183 [(.t 8), (.t 9)], none, []⟩,
    ⟨some 5, .move (.t 10), none, []⟩] .seq)
  (.seq (.seq (.region [⟨some 11, .move (.t 5), none, []⟩,
    ⟨some 12, .bin .eql (.t 11) (.c (.int .i64 (-1))), none, []⟩] .seq)
  (.cond (.t 12) (.seq (.region [⟨some 13, .move (.t 0), none, []⟩,
    ⟨some 4, .move (.t 13), none, []⟩] .seq)
  .ret)
  .skip))
  (.seq (.seq (.region [⟨some 14, .move (.t 5), none, []⟩,
    ⟨some 15, .bin .add (.t 14) (.c (.int .i64 1)), none, []⟩,
    ⟨some 6, .move (.t 15), none, []⟩] .seq)
  (.block 0 (.loop (.seq (.seq (.region [⟨some 16, .move (.t 6), none, []⟩,
    ⟨some 17, .move (.t 0), none, []⟩,
    ⟨some 18, .len .sl (.t 17), none, []⟩,
    ⟨some 19, .bin .lss (.t 16) (.t 18), none, []⟩] .seq)
  (.cond (.t 19) .skip
  (.exit 0)))
  (.seq (.block 1 (.seq (.region [⟨some 22, .move (.t 0), none, []⟩,
    ⟨some 23, .move (.t 6), none, []⟩,
    ⟨some 24, .indexAddrS 1 (.t 22) (.t 23), none, []⟩,
    ⟨some 25, .load1 (.t 24), none, []⟩,
    ⟨some 7, .move (.t 25), none, []⟩] .seq)
  (.seq (.region [⟨some 26, .move (.t 1), none, []⟩,
    ⟨some 27, .move (.t 7), none, []⟩,
    ⟨some 28, .callV (.t 26) [(.t 27)], none, []⟩,
    ⟨some 29, .un .not (.t 28), none, []⟩] .seq)
  (.cond (.t 29) (.seq (.region [⟨some 30, .move (.t 0), none, []⟩,
    ⟨some 31, .move (.t 5), none, []⟩,
    ⟨some 32, .move (.t 7), none, []⟩,
    ⟨some 33, .indexAddrS 1 (.t 30) (.t 31), none, []⟩,
    ⟨none, .store 1 (.t 33) (.t 32), none, []⟩] .seq)
  (.region [⟨some 34, .move (.t 5), none, []⟩,
    ⟨some 35, .bin .add (.t 34) (.c (.int .i64 1)), none, []⟩,
    ⟨some 5, .move (.t 35), none, []⟩] .seq))
  .skip))))
  (.region [⟨some 20, .move (.t 6), none, []⟩,
    ⟨some 21, .bin .add (.t 20) (.c (.int .i64 1)), none, []⟩,
    ⟨some 6, .move (.t 21), none, []⟩] .seq))))))
  (.seq (.region [⟨some 36, .move (.t 0), none, []⟩,
    ⟨some 37, .move (.t 5), none, []⟩,
    ⟨some 38, .slice 1 (.t 36) (some (.t 37)) none none, none, []⟩,
    ⟨none, .clear [(.int .i64 0)] (.t 38), none, []⟩] .seq)
  (.seq (.region [⟨some 39, .move (.t 0), none, []⟩,
    ⟨some 40, .move (.t 5), none, []⟩,
    ⟨some 41, .slice 1 (.t 39) none (some (.t 40)) none, none, []⟩,
    ⟨some 4, .move (.t 41), none, []⟩] .seq)
  .ret))))))⟩
/-- (*anabranch/table.Table).Add$1 -/
def DF109 : AFunc := ⟨8, [.tmp 3], (.seq (.region [⟨some 3, .move (.c (.bool false)), none, []⟩] .seq)
  (.seq (.region [⟨some 4, .move (.t 0), none, []⟩,
    ⟨some 5, .fieldAddr 3 (.t 1), none, []⟩,
    ⟨some 6, .load1 (.t 5), none, []⟩,
    ⟨some 7, .bin .eql (.t 4) (.t 6), none, []⟩,
    ⟨some 3, .move (.t 7), none, []⟩] .seq)
  .ret))⟩
/-- (*anabranch/table.Table).has -/
def DF110 : AFunc := ⟨22, [.tmp 4], (.seq (.region [⟨some 4, .move (.c (.int .i64 0)), none, []⟩] .seq)
  (.seq (.region [⟨some 5, .move (.t 0), none, []⟩,
    ⟨some 6, .move (.t 1), none, []⟩,
    ⟨some 7, .nilCheck (.t 5), none, []⟩,
    ⟨some 8, .fieldAddr 10 (.t 7), none, []⟩,
    ⟨some 9, .indexAddrA 8 1 (.t 8) (.t 6), none, []⟩,
    ⟨some 10, .load1 (.t 9), none, [18]⟩,
    ⟨some 11, .move (.t 0), none, []⟩,
    ⟨some 12, .move (.t 1), none, []⟩,
    ⟨some 13, .nilCheck (.t 11), none, []⟩,
    ⟨some 14, .fieldAddr 10 (.t 13), none, []⟩,
    ⟨some 15, .indexAddrA 8 1 (.t 14) (.t 12), none, []⟩,
    ⟨some 16, .load1 (.t 15), none, [18]⟩,
    ⟨some 17, .len .sl (.t 16), none, []⟩,
    ⟨some 18, .bin .sub (.t 17) (.c (.int .i64 1)), none, []⟩,
    ⟨some 19, .indexAddrS 2 (.t 10) (.t 18), none, []⟩,
    ⟨some 20, .fieldAddr 1 (.t 19), none, []⟩,
    ⟨some 21, .load1 (.t 20), none, [18]⟩,
    ⟨some 4, .move (.t 21), none, []⟩] .sink)
  .ret))⟩
/-- anabranch/denot.through$1 -/
def DF114 : AFunc := ⟨24, [], (.seq (.region [⟨some 4, .box 207 (.t 0), none, []⟩] .seq)
  (.seq (.region [⟨some 8, .load1 (.t 1), none, []⟩] .seq)
  (.block 0 (.rangeFunc (.t 8) [9] (.region [⟨some 5, .alloc 43 [(.int .u32 0), (.int .i64 0), (.int .i64 0), (.int .u8 0), (.bool false), (.bool false)], none, []⟩,
    ⟨none, .store 6 (.t 5) (.t 9), none, []⟩] .seq)
  (.block 1 (.seq (.region [⟨some 10, .load1 (.t 2), none, []⟩,
    ⟨some 11, .load1 (.t 3), none, []⟩,
    ⟨some 12, .loadN 6 (.t 5), none, []⟩,
    ⟨some 13, .callF 115 [(.t 10), (.t 11), (.t 12)], none, []⟩,
    ⟨some 14, .len .sl (.t 13), none, []⟩,
    ⟨some 15, .move (.c (.int .i64 0)), none, []⟩] .seq)
  (.block 2 (.loop (.seq (.region [⟨some 16, .bin .lss (.t 15) (.t 14), none, []⟩] .seq)
  (.seq (.cond (.t 16) .skip
  (.exit 2))
  (.seq (.block 3 (.seq (.region [⟨some 17, .indexAddrS 6 (.t 13) (.t 15), none, []⟩,
    ⟨some 18, .loadN 6 (.t 17), none, []⟩,
    ⟨some 7, .alloc 43 [(.int .u32 0), (.int .i64 0), (.int .i64 0), (.int .u8 0), (.bool false), (.bool false)], none, []⟩,
    ⟨none, .store 6 (.t 7) (.t 18), none, []⟩] .seq)
  (.seq (.region [⟨some 19, .load1 (.t 4), none, []⟩,
    ⟨some 20, .loadN 6 (.t 7), none, []⟩,
    ⟨some 21, .callV (.t 19) [(.t 20)], none, []⟩,
    ⟨some 22, .un .not (.t 21), none, []⟩] .seq)
  (.cond (.t 22) .ret
  .skip))))
  (.region [⟨some 23, .bin .add (.t 15) (.c (.int .i64 1)), none, []⟩,
    ⟨some 15, .move (.t 23), none, []⟩] .seq))))))))))))⟩
/-- anabranch/denot.one -/
def DF115 : AFunc := ⟨37, [.tmp 6], (.seq (.region [⟨some 5, .box 43 (.t 2), none, []⟩,
    ⟨some 6, .move (.c .sl0), none, []⟩] .seq)
  (.seq (.region [⟨some 7, .move (.c .sl0), none, []⟩] .seq)
  (.seq (.seq (.region [⟨some 12, .move (.t 1), none, []⟩,
    ⟨some 13, .len .sl (.t 12), none, []⟩,
    ⟨some 14, .move (.c (.int .i64 0)), none, []⟩] .seq)
  (.block 0 (.loop (.seq (.region [⟨some 15, .bin .lss (.t 14) (.t 13), none, []⟩] .seq)
  (.seq (.cond (.t 15) .skip
  (.exit 0))
  (.seq (.block 1 (.seq (.region [⟨some 16, .indexAddrS 1 (.t 12) (.t 14), none, []⟩,
    ⟨some 17, .load1 (.t 16), none, []⟩,
    ⟨some 9, .move (.t 17), none, []⟩] .seq)
  (.seq (.region [⟨some 19, .move (.t 0), none, []⟩,
    ⟨some 20, .move (.t 9), none, []⟩,
    ⟨some 21, .move (.t 0), none, []⟩,
    ⟨some 22, .move (.t 9), none, []⟩,
    ⟨some 23, .fieldAddr 1 (.t 5), none, []⟩,
    ⟨some 24, .load1 (.t 23), none, []⟩,
    ⟨some 25, .callF 50 [(.t 21), (.t 22), (.t 24)], none, []⟩,
    ⟨some 26, .callF 45 [(.t 19), (.t 20), (.t 25)], none, []⟩,
    ⟨some 18, .move (.t 26), none, []⟩,
    ⟨some 27, .extract (.t 18) 0, none, []⟩,
    ⟨some 28, .extract (.t 18) 1, none, []⟩,
    ⟨some 10, .alloc 84 [(.int .i64 0), (.int .i64 0), (.int .i64 0), (.int .i64 0)], none, []⟩,
    ⟨none, .store 4 (.t 10) (.t 27), none, []⟩,
    ⟨some 11, .move (.t 28), none, []⟩] .seq)
  (.region [⟨some 29, .move (.t 7), none, []⟩,
    ⟨some 30, .loadN 4 (.t 10), none, []⟩,
    ⟨some 31, .buildSlice 84 1 4 [(.int .i64 0), (.int .i64 0), (.int .i64 0), (.int .i64 0)] [(0, 4, (.t 30))], none, []⟩,
    ⟨some 32, .append 84 4 32 [(.int .i64 0), (.int .i64 0), (.int .i64 0), (.int .i64 0)] (.t 29) (.t 31), none, []⟩,
    ⟨some 7, .move (.t 32), none, []⟩] .seq))))
  (.region [⟨some 33, .bin .add (.t 14) (.c (.int .i64 1)), none, []⟩,
    ⟨some 14, .move (.t 33), none, []⟩] .seq)))))))
  (.seq (.region [⟨some 34, .move (.t 7), none, []⟩,
    ⟨some 35, .loadN 6 (.t 5), none, []⟩,
    ⟨some 36, .callF 185 [(.t 34), (.t 35)], none, []⟩,
    ⟨some 6, .move (.t 36), none, []⟩] .seq)
  .ret))))⟩
/-- anabranch/plan.those -/
def DF116 : AFunc := ⟨21, [.cell1 4], (.seq (.region [⟨some 2, .box 55 (.t 0), none, []⟩,
    ⟨some 3, .box 212 (.t 1), none, []⟩,
    ⟨some 4, .alloc 82 [.sl0], none, []⟩] .seq)
  (.seq (.region [⟨some 5, .alloc 3 [(.int .i64 0)], none, []⟩,
    ⟨none, .store 1 (.t 5) (.c (.int .i64 0)), none, []⟩] .seq)
  (.seq (.seq (.region [⟨some 7, .loadN 4 (.t 2), none, []⟩,
    ⟨some 8, .callF 152 [(.t 7)], none, []⟩] .seq)
  (.block 0 (.rangeFunc (.t 8) [9, 10] (.region [⟨some 6, .alloc 211 [(.int .i64 0), (.int .i64 0)], none, []⟩,
    ⟨none, .store 2 (.t 6) (.t 9), none, []⟩] .seq)
  (.block 1 (.seq (.seq (.region [⟨some 11, .load1 (.t 3), none, []⟩,
    ⟨some 12, .loadN 2 (.t 6), none, []⟩,
    ⟨some 13, .callV (.t 11) [(.t 12)], none, []⟩] .seq)
  (.cond (.t 13) (.region [⟨some 14, .load1 (.t 4), none, []⟩,
    ⟨some 15, .load1 (.t 5), none, []⟩,
    ⟨some 16, .buildSlice 3 1 1 [(.int .i64 0)] [(0, 1, (.t 15))], none, []⟩,
    ⟨some 17, .append 3 1 8 [(.int .i64 0)] (.t 14) (.t 16), none, []⟩,
    ⟨none, .store 1 (.t 4) (.t 17), none, []⟩] .seq)
  .skip))
  (.region [⟨some 18, .load1 (.t 5), none, []⟩,
    ⟨some 19, .bin .add (.t 18) (.c (.int .i64 1)), none, []⟩,
    ⟨none, .store 1 (.t 5) (.t 19), none, []⟩] .seq))))))
  (.seq (.region [⟨some 20, .load1 (.t 4), none, []⟩,
    ⟨none, .store 1 (.t 4) (.t 20), none, []⟩] .seq)
  .ret))))⟩
/-- anabranch/plan.Pre$1 -/
def DF117 : AFunc := ⟨6, [.tmp 2], (.seq (.region [⟨some 1, .box 211 (.t 0), none, []⟩,
    ⟨some 2, .move (.c (.bool false)), none, []⟩] .seq)
  (.seq (.region [⟨some 3, .fieldAddr 0 (.t 1), none, []⟩,
    ⟨some 4, .load1 (.t 3), none, []⟩,
    ⟨some 5, .bin .eql (.t 4) (.c (.int .i64 0)), none, []⟩,
    ⟨some 2, .move (.t 5), none, []⟩] .seq)
  .ret))⟩
/-- slices.Values[[]anabranch/api.Rec,anabranch/api.Rec]$1 -/
def DF118 : AFunc := ⟨16, [], (.seq (.region [⟨some 5, .load1 (.t 1), none, []⟩,
    ⟨some 6, .len .sl (.t 5), none, []⟩,
    ⟨some 7, .move (.c (.int .i64 0)), none, []⟩] .seq)
  (.block 0 (.loop (.seq (.region [⟨some 8, .bin .lss (.t 7) (.t 6), none, []⟩] .seq)
  (.seq (.cond (.t 8) .skip
  (.exit 0))
  (.seq (.block 1 (.seq (.region [⟨some 9, .indexAddrS 6 (.t 5) (.t 7), none, []⟩,
    ⟨some 10, .loadN 6 (.t 9), none, []⟩,
    ⟨some 4, .alloc 43 [(.int .u32 0), (.int .i64 0), (.int .i64 0), (.int .u8 0), (.bool false), (.bool false)], none, []⟩,
    ⟨none, .store 6 (.t 4) (.t 10), none, []⟩] .seq)
  (.seq (.region [⟨some 11, .move (.t 0), none, []⟩,
    ⟨some 12, .loadN 6 (.t 4), none, []⟩,
    ⟨some 13, .callV (.t 11) [(.t 12)], none, []⟩,
    ⟨some 14, .un .not (.t 13), none, []⟩] .seq)
  (.cond (.t 14) .ret
  .skip))))
  (.region [⟨some 15, .bin .add (.t 7) (.c (.int .i64 1)), none, []⟩,
    ⟨some 7, .move (.t 15), none, []⟩] .seq)))))))⟩
/-- anabranch/plan.Post$1 -/
def DF119 : AFunc := ⟨18, [.tmp 3], (.seq (.region [⟨some 2, .box 211 (.t 0), none, []⟩,
    ⟨some 3, .move (.c (.bool false)), none, []⟩] .seq)
  (.seq (.region [⟨some 4, .fieldAddr 0 (.t 2), none, []⟩,
    ⟨some 5, .load1 (.t 4), none, []⟩,
    ⟨some 6, .load1 (.t 1), none, []⟩,
    ⟨some 7, .bin .eql (.t 5) (.t 6), none, []⟩,
    ⟨some 8, .move (.t 7), none, []⟩,
    ⟨some 9, .fieldAddr 0 (.t 2), some (8, true), []⟩,
    ⟨some 10, .load1 (.t 9), some (8, true), []⟩,
    ⟨some 11, .bin .gtr (.t 10) (.c (.int .i64 0)), some (8, true), []⟩,
    ⟨some 12, .pick (.t 8) (.t 11) (.c (.bool false)), none, []⟩,
    ⟨some 13, .move (.t 12), none, []⟩,
    ⟨some 14, .loadN 2 (.t 2), some (13, true), []⟩,
    ⟨some 15, .callF 120 [(.t 14)], some (13, true), []⟩,
    ⟨some 16, .un .not (.t 15), some (13, true), []⟩,
    ⟨some 17, .pick (.t 13) (.t 16) (.c (.bool false)), none, []⟩,
    ⟨some 3, .move (.t 17), none, []⟩] .seq)
  .ret))⟩
/-- (anabranch/plan.spot).heads -/
def DF120 : AFunc := ⟨11, [.tmp 2], (.seq (.region [⟨some 1, .box 211 (.t 0), none, []⟩,
    ⟨some 2, .move (.c (.bool false)), none, []⟩] .seq)
  (.seq (.region [⟨some 3, .fieldAddr 0 (.t 1), none, []⟩,
    ⟨some 4, .load1 (.t 3), none, []⟩,
    ⟨some 5, .bin .gtr (.t 4) (.c (.int .i64 0)), none, []⟩,
    ⟨some 6, .move (.t 5), none, []⟩,
    ⟨some 7, .fieldAddr 1 (.t 1), some (6, true), []⟩,
    ⟨some 8, .load1 (.t 7), some (6, true), []⟩,
    ⟨some 9, .bin .eql (.t 8) (.c (.int .i64 0)), some (6, true), []⟩,
    ⟨some 10, .pick (.t 6) (.t 9) (.c (.bool false)), none, []⟩,
    ⟨some 2, .move (.t 10), none, []⟩] .seq)
  .ret))⟩
/-- anabranch/denot.stage$1 -/
def DF121 : AFunc := ⟨60, [], (.seq (.region [⟨some 4, .box 207 (.t 0), none, []⟩] .seq)
  (.seq (.region [⟨some 12, .mkMap none, none, []⟩,
    ⟨some 5, .alloc 213 [.map0], none, []⟩,
    ⟨none, .store 1 (.t 5) (.t 12), none, []⟩] .seq)
  (.seq (.seq (.region [⟨some 13, .load1 (.t 1), none, []⟩] .seq)
  (.block 0 (.rangeFunc (.t 13) [14] (.region [⟨some 6, .alloc 43 [(.int .u32 0), (.int .i64 0), (.int .i64 0), (.int .u8 0), (.bool false), (.bool false)], none, []⟩,
    ⟨none, .store 6 (.t 6) (.t 14), none, []⟩] .seq)
  (.block 1 (.seq (.seq (.region [⟨some 15, .fieldAddr 4 (.t 6), none, []⟩,
    ⟨some 16, .load1 (.t 15), none, []⟩,
    ⟨some 17, .move (.t 16), none, []⟩,
    ⟨some 18, .fieldAddr 5 (.t 6), some (17, false), []⟩,
    ⟨some 19, .load1 (.t 18), some (17, false), []⟩,
    ⟨some 20, .pick (.t 17) (.c (.bool true)) (.t 19), none, []⟩] .seq)
  (.cond (.t 20) (.seq (.seq (.region [⟨some 21, .load1 (.t 4), none, []⟩,
    ⟨some 22, .loadN 6 (.t 6), none, []⟩,
    ⟨some 23, .callV (.t 21) [(.t 22)], none, []⟩,
    ⟨some 24, .un .not (.t 23), none, []⟩] .seq)
  (.cond (.t 24) .ret
  .skip))
  (.exit 1))
  .skip))
  (.seq (.region [⟨some 25, .load1 (.t 2), none, [4]⟩,
    ⟨some 26, .load1 (.t 3), none, [4]⟩,
    ⟨some 27, .fieldAddr 1 (.t 6), none, []⟩,
    ⟨some 28, .load1 (.t 27), none, [4]⟩,
    ⟨some 29, .callF 50 [(.t 25), (.t 26), (.t 28)], none, []⟩,
    ⟨some 30, .fieldAddr 0 (.t 6), none, []⟩,
    ⟨some 31, .load1 (.t 30), none, [4, 9]⟩,
    ⟨some 32, .build [(.int .i64 0), (.int .u32 0)] [(0, 1, (.t 29)), (1, 1, (.t 31))], none, []⟩,
    ⟨some 7, .alloc 215 [(.int .i64 0), (.int .u32 0)], none, []⟩,
    ⟨none, .store 2 (.t 7) (.t 32), none, []⟩] .sink)
  (.region [⟨some 33, .load1 (.t 5), none, []⟩,
    ⟨some 34, .loadN 2 (.t 7), none, []⟩,
    ⟨some 36, .loadN 6 (.t 6), none, []⟩,
    ⟨some 37, .buildSlice 43 1 6 [(.int .u32 0), (.int .i64 0), (.int .i64 0), (.int .u8 0), (.bool false), (.bool false)] [(0, 6, (.t 36))], none, []⟩,
    ⟨some 38, .mapEntry [(.i .i64), (.i .u32)] true .sl0 (.t 33) (.t 34), none, []⟩,
    ⟨some 35, .extract (.t 38) 0, none, []⟩,
    ⟨some 39, .append 43 6 32 [(.int .u32 0), (.int .i64 0), (.int .i64 0), (.int .u8 0), (.bool false), (.bool false)] (.t 35) (.t 37), none, []⟩,
    ⟨some 40, .extract (.t 38) 1, none, []⟩,
    ⟨none, .entryStore (.t 33) (.t 40) (.t 39), none, []⟩] .seq)))))))
  (.seq (.region [⟨some 8, .move (.c (.fn 122 [] [])), none, []⟩] .seq)
  (.seq (.seq (.region [⟨some 42, .load1 (.t 2), none, []⟩,
    ⟨some 43, .load1 (.t 3), none, []⟩,
    ⟨some 44, .callF 45 [(.t 42), (.t 43), (.c (.int .i64 0))], none, []⟩,
    ⟨some 41, .move (.t 44), none, []⟩,
    ⟨some 45, .extract (.t 41) 0, none, []⟩,
    ⟨some 46, .extract (.t 41) 1, none, []⟩,
    ⟨some 9, .alloc 84 [(.int .i64 0), (.int .i64 0), (.int .i64 0), (.int .i64 0)], none, []⟩,
    ⟨none, .store 4 (.t 9) (.t 45), none, []⟩,
    ⟨some 10, .move (.t 46), none, []⟩] .seq)
  (.seq (.region [⟨some 47, .loadN 4 (.t 9), none, []⟩,
    ⟨some 48, .callF 49 [(.t 47)], none, []⟩,
    ⟨some 49, .bin .eql (.t 48) (.c (.int .i64 2)), none, []⟩] .seq)
  (.cond (.t 49) (.region [⟨some 8, .move (.c (.fn 123 [] [])), none, []⟩] .seq)
  .skip)))
  (.seq (.region [⟨some 50, .move (.t 8), none, []⟩,
    ⟨some 51, .load1 (.t 2), none, []⟩,
    ⟨some 52, .load1 (.t 3), none, []⟩,
    ⟨some 53, .load1 (.t 5), none, []⟩,
    ⟨some 54, .callV (.t 50) [(.t 51), (.t 52), (.t 53)], none, []⟩] .seq)
  (.block 2 (.rangeFunc (.t 54) [55] (.region [⟨some 11, .alloc 43 [(.int .u32 0), (.int .i64 0), (.int .i64 0), (.int .u8 0), (.bool false), (.bool false)], none, []⟩,
    ⟨none, .store 6 (.t 11) (.t 55), none, []⟩] .seq)
  (.block 3 (.seq (.region [⟨some 56, .load1 (.t 4), none, []⟩,
    ⟨some 57, .loadN 6 (.t 11), none, []⟩,
    ⟨some 58, .callV (.t 56) [(.t 57)], none, []⟩,
    ⟨some 59, .un .not (.t 58), none, []⟩] .seq)
  (.cond (.t 59) .ret
  .skip)))))))))))⟩
/-- anabranch/denot.windows -/
def DF122 : AFunc := ⟨8, [.tmp 6], (.seq (.region [⟨some 3, .box 34 (.t 0), none, []⟩,
    ⟨some 4, .box 3 (.t 1), none, []⟩,
    ⟨some 5, .box 213 (.t 2), none, []⟩,
    ⟨some 6, .move (.c .fn0), none, []⟩] .seq)
  (.seq (.region [⟨some 7, .mkFunc 186 [] [(.t 5), (.t 3), (.t 4)], none, []⟩,
    ⟨some 6, .move (.t 7), none, []⟩] .seq)
  .ret))⟩
/-- anabranch/denot.joins -/
def DF123 : AFunc := ⟨8, [.tmp 6], (.seq (.region [⟨some 3, .box 34 (.t 0), none, []⟩,
    ⟨some 4, .box 3 (.t 1), none, []⟩,
    ⟨some 5, .box 213 (.t 2), none, []⟩,
    ⟨some 6, .move (.c .fn0), none, []⟩] .seq)
  (.seq (.region [⟨some 7, .mkFunc 190 [] [(.t 5), (.t 3), (.t 4)], none, []⟩,
    ⟨some 6, .move (.t 7), none, []⟩] .seq)
  .ret))⟩
/-- anabranch/plan.Of$1 -/
def DF124 : AFunc := ⟨12, [.tmp 3], (.seq (.region [⟨some 2, .box 211 (.t 0), none, []⟩,
    ⟨some 3, .move (.c (.bool false)), none, []⟩] .seq)
  (.seq (.region [⟨some 4, .loadN 2 (.t 2), none, []⟩,
    ⟨some 5, .callF 120 [(.t 4)], none, []⟩,
    ⟨some 6, .move (.t 5), none, []⟩,
    ⟨some 7, .fieldAddr 0 (.t 2), some (6, true), []⟩,
    ⟨some 8, .load1 (.t 7), some (6, true), []⟩,
    ⟨some 9, .load1 (.t 1), some (6, true), []⟩,
    ⟨some 10, .bin .eql (.t 8) (.t 9), some (6, true), []⟩,
    ⟨some 11, .pick (.t 6) (.t 10) (.c (.bool false)), none, []⟩,
    ⟨some 3, .move (.t 11), none, []⟩] .seq)
  .ret))⟩
/-- anabranch/denot.first -/
def DF133 : AFunc := ⟨5, [.tmp 2], (.seq (.region [⟨some 2, .move (.c (.int .i64 0)), none, []⟩] .seq)
  (.seq (.region [⟨some 3, .move (.t 0), none, []⟩,
    ⟨some 4, .callF 77 [(.t 3)], none, []⟩,
    ⟨some 2, .move (.t 4), none, []⟩] .seq)
  .ret))⟩
/-- anabranch/denot.truth -/
def DF134 : AFunc := ⟨4, [.tmp 2], (.seq (.region [⟨some 2, .move (.c (.int .i64 0)), none, []⟩] .seq)
  (.seq (.seq (.region [⟨some 3, .move (.t 0), none, []⟩] .seq)
  (.cond (.t 3) (.seq (.region [⟨some 2, .move (.c (.int .i64 1)), none, []⟩] .seq)
  .ret)
  .skip))
  (.seq (.region [⟨some 2, .move (.c (.int .i64 0)), none, []⟩] .seq)
  .ret)))⟩
/-- slices.Clone[[]anabranch/api.Rec,anabranch/api.Rec] -/
def DF135 : AFunc := ⟨8, [.tmp 2], (.seq (.region [⟨some 2, .move (.c .sl0), none, []⟩] .seq)
  (.seq (.seq (.region [⟨some 3, .move (.t 0), none, []⟩,
    ⟨some 4, .isNil .s false (.t 3) (.c .sl0), none, []⟩] .seq)
  (.cond (.t 4) (.seq (.region [⟨some 2, .move (.c .sl0), none, []⟩] .seq)
  .ret)
  .skip))
  (.seq (.region [⟨some 5, .buildSlice 43 0 6 [] [], none, []⟩,
    ⟨some 6, .move (.t 0), none, []⟩,
    ⟨some 7, .append 43 6 32 [(.int .u32 0), (.int .i64 0), (.int .i64 0), (.int .u8 0), (.bool false), (.bool false)] (.t 5) (.t 6), none, []⟩,
    ⟨some 2, .move (.t 7), none, []⟩] .seq)
  .ret)))⟩
/-- slices.SortStableFunc[[]anabranch/api.Rec,anabranch/api.Rec] -/
def DF136 : AFunc := ⟨9, [], (.region [⟨some 4, .move (.t 0), none, []⟩,
    ⟨some 5, .move (.t 0), none, []⟩,
    ⟨some 6, .len .sl (.t 5), none, []⟩,
    ⟨some 7, .move (.t 1), none, []⟩,
    ⟨some 8, .callF 207 [(.t 4), (.t 6), (.t 7)], none, []⟩] .seq)⟩
/-- cmp.isNaN[int] -/
def DF137 : AFunc := ⟨6, [.tmp 2], (.seq (.region [⟨some 2, .move (.c (.bool false)), none, []⟩] .seq)
  (.seq (.region [⟨some 3, .move (.t 0), none, []⟩,
    ⟨some 4, .move (.t 0), none, []⟩,
    ⟨some 5, .bin .neq (.t 3) (.t 4), none, []⟩,
    ⟨some 2, .move (.t 5), none, []⟩] .seq)
  .ret))⟩
/-- cmp.isNaN[uint32] -/
def DF138 : AFunc := ⟨6, [.tmp 2], (.seq (.region [⟨some 2, .move (.c (.bool false)), none, []⟩] .seq)
  (.seq (.region [⟨some 3, .move (.t 0), none, []⟩,
    ⟨some 4, .move (.t 0), none, []⟩,
    ⟨some 5, .bin .neq (.t 3) (.t 4), none, []⟩,
    ⟨some 2, .move (.t 5), none, []⟩] .seq)
  .ret))⟩
/-- cmp.isNaN[uint8] -/
def DF139 : AFunc := ⟨6, [.tmp 2], (.seq (.region [⟨some 2, .move (.c (.bool false)), none, []⟩] .seq)
  (.seq (.region [⟨some 3, .move (.t 0), none, []⟩,
    ⟨some 4, .move (.t 0), none, []⟩,
    ⟨some 5, .bin .neq (.t 3) (.t 4), none, []⟩,
    ⟨some 2, .move (.t 5), none, []⟩] .seq)
  .ret))⟩
/-- anabranch/oper.Check -/
def DF140 : AFunc := ⟨36, [.tmp 2], (.seq (.region [⟨some 1, .box 84 (.t 0), none, []⟩,
    ⟨some 2, .move (.c (.int .i64 0)), none, []⟩] .seq)
  (.seq (.seq (.region [⟨some 5, .fieldAddr 0 (.t 1), none, []⟩,
    ⟨some 6, .load1 (.t 5), none, []⟩,
    ⟨some 7, .bin .lss (.t 6) (.c (.int .i64 0)), none, []⟩,
    ⟨some 8, .move (.t 7), none, []⟩,
    ⟨some 9, .fieldAddr 0 (.t 1), some (8, false), []⟩,
    ⟨some 10, .load1 (.t 9), some (8, false), []⟩,
    ⟨some 11, .bin .gtr (.t 10) (.c (.int .i64 7)), some (8, false), []⟩,
    ⟨some 12, .pick (.t 8) (.c (.bool true)) (.t 11), none, []⟩] .seq)
  (.cond (.t 12) (.seq (.region [⟨some 2, .move (.c (.int .i64 13)), none, []⟩] .seq)
  .ret)
  .skip))
  (.seq (.region [⟨some 13, .callF 93 [], none, []⟩,
    ⟨some 14, .fieldAddr 0 (.t 1), none, []⟩,
    ⟨some 15, .load1 (.t 14), none, [0, 5]⟩,
    ⟨some 16, .index 8 3 true (.t 13) (.t 15), none, []⟩,
    ⟨some 3, .alloc 182 [(.int .i64 0), .fn0, .fn0], none, []⟩,
    ⟨none, .store 3 (.t 3) (.t 16), none, []⟩] .sink)
  (.seq (.region [⟨some 4, .move (.c (.int .i64 0)), none, []⟩] .seq)
  (.seq (.seq (.region [⟨some 17, .fieldAddr 0 (.t 3), none, []⟩,
    ⟨some 18, .load1 (.t 17), none, []⟩,
    ⟨some 19, .bin .eql (.t 18) (.c (.int .i64 1)), none, []⟩] .seq)
  (.cond (.t 19) (.region [⟨some 4, .move (.c (.int .i64 3)), none, []⟩] .seq)
  .skip))
  (.seq (.seq (.region [⟨some 20, .fieldAddr 3 (.t 1), none, []⟩,
    ⟨some 21, .load1 (.t 20), none, []⟩,
    ⟨some 22, .bin .lss (.t 21) (.c (.int .i64 0)), none, []⟩,
    ⟨some 23, .move (.t 22), none, []⟩,
    ⟨some 24, .fieldAddr 3 (.t 1), some (23, false), []⟩,
    ⟨some 25, .load1 (.t 24), some (23, false), []⟩,
    ⟨some 26, .move (.t 4), some (23, false), []⟩,
    ⟨some 27, .bin .gtr (.t 25) (.t 26), some (23, false), []⟩,
    ⟨some 28, .pick (.t 23) (.c (.bool true)) (.t 27), none, []⟩,
    ⟨some 29, .move (.t 28), none, []⟩,
    ⟨some 30, .fieldAddr 1 (.t 3), some (29, false), []⟩,
    ⟨some 31, .load1 (.t 30), some (29, false), []⟩,
    ⟨some 32, .loadN 4 (.t 1), some (29, false), []⟩,
    ⟨some 33, .callV (.t 31) [(.t 32)], some (29, false), []⟩,
    ⟨some 34, .un .not (.t 33), some (29, false), []⟩,
    ⟨some 35, .pick (.t 29) (.c (.bool true)) (.t 34), none, []⟩] .seq)
  (.cond (.t 35) (.seq (.region [⟨some 2, .move (.c (.int .i64 13)), none, []⟩] .seq)
  .ret)
  .skip))
  (.seq (.region [⟨some 2, .move (.c (.int .i64 0)), none, []⟩] .seq)
  .ret)))))))⟩
/-- anabranch/win.Of$1 -/
def DF141 : AFunc := ⟨9, [.tmp 2], (.seq (.region [⟨some 2, .move (.c .fn0), none, []⟩] .seq)
  (.seq (.region [⟨some 3, .load1 (.t 0), none, []⟩,
    ⟨some 4, .fieldAddr 1 (.t 1), none, []⟩,
    ⟨some 5, .load1 (.t 4), none, []⟩,
    ⟨some 6, .fieldAddr 1 (.t 1), none, []⟩,
    ⟨some 7, .load1 (.t 6), none, []⟩,
    ⟨some 8, .callF 142 [(.t 3), (.t 5), (.t 7)], none, []⟩,
    ⟨some 2, .move (.t 8), none, []⟩] .seq)
  .ret))⟩
/-- anabranch/win.from -/
def DF142 : AFunc := ⟨8, [.tmp 6], (.seq (.region [⟨some 3, .box 2 (.t 0), none, []⟩,
    ⟨some 4, .box 2 (.t 1), none, []⟩,
    ⟨some 5, .box 2 (.t 2), none, []⟩,
    ⟨some 6, .move (.c .fn0), none, []⟩] .seq)
  (.seq (.region [⟨some 7, .mkFunc 208 [] [(.t 3), (.t 5), (.t 4)], none, []⟩,
    ⟨some 6, .move (.t 7), none, []⟩] .seq)
  .ret))⟩
/-- anabranch/win.Of$2 -/
def DF143 : AFunc := ⟨9, [.tmp 2], (.seq (.region [⟨some 2, .move (.c .fn0), none, []⟩] .seq)
  (.seq (.region [⟨some 3, .load1 (.t 0), none, []⟩,
    ⟨some 4, .fieldAddr 1 (.t 1), none, []⟩,
    ⟨some 5, .load1 (.t 4), none, []⟩,
    ⟨some 6, .fieldAddr 2 (.t 1), none, []⟩,
    ⟨some 7, .load1 (.t 6), none, []⟩,
    ⟨some 8, .callF 142 [(.t 3), (.t 5), (.t 7)], none, []⟩,
    ⟨some 2, .move (.t 8), none, []⟩] .seq)
  .ret))⟩
/-- anabranch/win.Of$3 -/
def DF144 : AFunc := ⟨11, [.tmp 2], (.seq (.region [⟨some 2, .move (.c .fn0), none, []⟩] .seq)
  (.seq (.region [⟨some 3, .load1 (.t 0), none, []⟩,
    ⟨some 4, .load1 (.t 0), none, []⟩,
    ⟨some 5, .fieldAddr 1 (.t 1), none, []⟩,
    ⟨some 6, .load1 (.t 5), none, []⟩,
    ⟨some 7, .bin .add (.t 4) (.t 6), none, []⟩,
    ⟨some 8, .build [(.int .i64 0), (.int .i64 0)] [(0, 1, (.t 3)), (1, 1, (.t 7))], none, []⟩,
    ⟨some 9, .buildSlice 96 1 2 [(.int .i64 0), (.int .i64 0)] [(0, 2, (.t 8))], none, []⟩,
    ⟨some 10, .callF 145 [(.t 9)], none, []⟩,
    ⟨some 2, .move (.t 10), none, []⟩] .seq)
  .ret))⟩
/-- slices.Values[[][2]int64,[2]int64] -/
def DF145 : AFunc := ⟨4, [.tmp 2], (.seq (.region [⟨some 1, .box 163 (.t 0), none, []⟩,
    ⟨some 2, .move (.c .fn0), none, []⟩] .seq)
  (.seq (.region [⟨some 3, .mkFunc 209 [] [(.t 1)], none, []⟩,
    ⟨some 2, .move (.t 3), none, []⟩] .seq)
  .ret))⟩
/-- slices.Collect[[2]int64] -/
def DF146 : AFunc := ⟨5, [.tmp 2], (.seq (.region [⟨some 2, .move (.c .sl0), none, []⟩] .seq)
  (.seq (.region [⟨some 3, .move (.t 0), none, []⟩,
    ⟨some 4, .callF 210 [(.c .sl0), (.t 3)], none, []⟩,
    ⟨some 2, .move (.t 4), none, []⟩] .seq)
  .ret))⟩
/-- anabranch/acc.results$1 -/
def DF147 : AFunc := ⟨6, [.tmp 2, .tmp 3], (.seq (.region [⟨some 1, .box 26 (.t 0), none, []⟩,
    ⟨some 2, .move (.c (.int .i64 0)), none, []⟩,
    ⟨some 3, .move (.c (.bool false)), none, []⟩] .seq)
  (.seq (.region [⟨some 4, .fieldAddr 0 (.t 1), none, []⟩,
    ⟨some 5, .load1 (.t 4), none, []⟩,
    ⟨some 2, .move (.t 5), none, []⟩,
    ⟨some 3, .move (.c (.bool true)), none, []⟩] .seq)
  .ret))⟩
/-- anabranch/acc.results$2 -/
def DF148 : AFunc := ⟨6, [.tmp 2, .tmp 3], (.seq (.region [⟨some 1, .box 26 (.t 0), none, []⟩,
    ⟨some 2, .move (.c (.int .i64 0)), none, []⟩,
    ⟨some 3, .move (.c (.bool false)), none, []⟩] .seq)
  (.seq (.region [⟨some 4, .fieldAddr 3 (.t 1), none, []⟩,
    ⟨some 5, .load1 (.t 4), none, []⟩,
    ⟨some 2, .move (.t 5), none, []⟩,
    ⟨some 3, .move (.c (.bool true)), none, []⟩] .seq)
  .ret))⟩
/-- anabranch/acc.results$3 -/
def DF149 : AFunc := ⟨6, [.tmp 2, .tmp 3], (.seq (.region [⟨some 1, .box 26 (.t 0), none, []⟩,
    ⟨some 2, .move (.c (.int .i64 0)), none, []⟩,
    ⟨some 3, .move (.c (.bool false)), none, []⟩] .seq)
  (.seq (.region [⟨some 4, .fieldAddr 4 (.t 1), none, []⟩,
    ⟨some 5, .load1 (.t 4), none, []⟩,
    ⟨some 2, .move (.t 5), none, []⟩,
    ⟨some 3, .move (.c (.bool true)), none, []⟩] .seq)
  .ret))⟩
/-- anabranch/acc.results$4 -/
def DF150 : AFunc := ⟨14, [.tmp 2, .tmp 3], (.seq (.region [⟨some 1, .box 26 (.t 0), none, []⟩,
    ⟨some 2, .move (.c (.int .i64 0)), none, []⟩,
    ⟨some 3, .move (.c (.bool false)), none, []⟩] .seq)
  (.seq (.seq (.region [⟨some 5, .fieldAddr 2 (.t 1), none, []⟩,
    ⟨some 6, .load1 (.t 5), none, []⟩,
    ⟨some 7, .conv .i64 (.t 6), none, []⟩,
    ⟨some 4, .move (.t 7), none, []⟩] .seq)
  (.seq (.region [⟨some 8, .move (.t 4), none, []⟩,
    ⟨some 9, .bin .shr (.t 8) (.c (.int .u64 63)), none, []⟩,
    ⟨some 10, .fieldAddr 1 (.t 1), none, []⟩,
    ⟨some 11, .load1 (.t 10), none, []⟩,
    ⟨some 12, .bin .eql (.t 9) (.t 11), none, []⟩] .seq)
  (.cond (.t 12) (.seq (.region [⟨some 13, .move (.t 4), none, []⟩,
    ⟨some 2, .move (.t 13), none, []⟩,
    ⟨some 3, .move (.c (.bool true)), none, []⟩] .seq)
  .ret)
  .skip)))
  (.seq (.region [⟨some 2, .move (.c (.int .i64 0)), none, []⟩,
    ⟨some 3, .move (.c (.bool false)), none, []⟩] .seq)
  .ret)))⟩
/-- anabranch/plan.long -/
def DF151 : AFunc := ⟨38, [.tmp 2], (.seq (.region [⟨some 1, .box 55 (.t 0), none, []⟩,
    ⟨some 2, .move (.c (.bool false)), none, []⟩] .seq)
  (.seq (.region [⟨some 6, .fieldAddr 0 (.t 1), none, []⟩,
    ⟨some 7, .load1 (.t 6), none, []⟩,
    ⟨some 8, .len .sl (.t 7), none, []⟩,
    ⟨some 9, .bin .gtr (.t 8) (.c (.int .i64 4)), none, []⟩,
    ⟨some 10, .move (.t 9), none, []⟩,
    ⟨some 11, .fieldAddr 1 (.t 1), some (10, false), []⟩,
    ⟨some 12, .load1 (.t 11), some (10, false), []⟩,
    ⟨some 13, .len .sl (.t 12), some (10, false), []⟩,
    ⟨some 14, .bin .eql (.t 13) (.c (.int .i64 0)), some (10, false), []⟩,
    ⟨some 15, .pick (.t 10) (.c (.bool true)) (.t 14), none, []⟩,
    ⟨some 16, .move (.t 15), none, []⟩,
    ⟨some 17, .fieldAddr 1 (.t 1), some (16, false), []⟩,
    ⟨some 18, .load1 (.t 17), some (16, false), []⟩,
    ⟨some 19, .len .sl (.t 18), some (16, false), []⟩,
    ⟨some 20, .bin .gtr (.t 19) (.c (.int .i64 2)), some (16, false), []⟩,
    ⟨some 21, .pick (.t 16) (.c (.bool true)) (.t 20), none, []⟩,
    ⟨some 3, .move (.t 21), none, []⟩] .seq)
  (.seq (.seq (.region [⟨some 22, .fieldAddr 1 (.t 1), none, []⟩,
    ⟨some 23, .load1 (.t 22), none, []⟩,
    ⟨some 24, .len .sl (.t 23), none, []⟩,
    ⟨some 25, .move (.c (.int .i64 0)), none, []⟩] .seq)
  (.block 0 (.loop (.seq (.region [⟨some 26, .bin .lss (.t 25) (.t 24), none, []⟩] .seq)
  (.seq (.cond (.t 26) .skip
  (.exit 0))
  (.seq (.block 1 (.seq (.region [⟨some 27, .indexAddrS 5 (.t 23) (.t 25), none, []⟩,
    ⟨some 28, .loadN 5 (.t 27), none, []⟩,
    ⟨some 5, .alloc 95 [(.int .i64 0), (.int .i64 0), (.int .i64 0), (.int .i64 0), .sl0], none, []⟩,
    ⟨none, .store 5 (.t 5) (.t 28), none, []⟩] .seq)
  (.region [⟨some 29, .move (.t 3), none, []⟩,
    ⟨some 30, .move (.t 29), none, []⟩,
    ⟨some 31, .fieldAddr 4 (.t 5), some (30, false), []⟩,
    ⟨some 32, .load1 (.t 31), some (30, false), []⟩,
    ⟨some 33, .len .sl (.t 32), some (30, false), []⟩,
    ⟨some 34, .bin .gtr (.t 33) (.c (.int .i64 4)), some (30, false), []⟩,
    ⟨some 35, .pick (.t 30) (.c (.bool true)) (.t 34), none, []⟩,
    ⟨some 3, .move (.t 35), none, []⟩] .seq)))
  (.region [⟨some 36, .bin .add (.t 25) (.c (.int .i64 1)), none, []⟩,
    ⟨some 25, .move (.t 36), none, []⟩] .seq)))))))
  (.seq (.region [⟨some 37, .move (.t 3), none, []⟩,
    ⟨some 2, .move (.t 37), none, []⟩] .seq)
  .ret))))⟩
/-- anabranch/plan.nodes -/
def DF152 : AFunc := ⟨4, [.tmp 2], (.seq (.region [⟨some 1, .box 55 (.t 0), none, []⟩,
    ⟨some 2, .move (.c .fn0), none, []⟩] .seq)
  (.seq (.region [⟨some 3, .mkFunc 211 [] [(.t 1)], none, []⟩,
    ⟨some 2, .move (.t 3), none, []⟩] .seq)
  .ret))⟩
/-- slices.Clone[[]anabranch/api.Op,anabranch/api.Op] -/
def DF153 : AFunc := ⟨8, [.tmp 2], (.seq (.region [⟨some 2, .move (.c .sl0), none, []⟩] .seq)
  (.seq (.seq (.region [⟨some 3, .move (.t 0), none, []⟩,
    ⟨some 4, .isNil .s false (.t 3) (.c .sl0), none, []⟩] .seq)
  (.cond (.t 4) (.seq (.region [⟨some 2, .move (.c .sl0), none, []⟩] .seq)
  .ret)
  .skip))
  (.seq (.region [⟨some 5, .buildSlice 84 0 4 [] [], none, []⟩,
    ⟨some 6, .move (.t 0), none, []⟩,
    ⟨some 7, .append 84 4 32 [(.int .i64 0), (.int .i64 0), (.int .i64 0), (.int .i64 0)] (.t 5) (.t 6), none, []⟩,
    ⟨some 2, .move (.t 7), none, []⟩] .seq)
  .ret)))⟩
/-- slices.Clone[[]anabranch/api.Stage,anabranch/api.Stage] -/
def DF154 : AFunc := ⟨8, [.tmp 2], (.seq (.region [⟨some 2, .move (.c .sl0), none, []⟩] .seq)
  (.seq (.seq (.region [⟨some 3, .move (.t 0), none, []⟩,
    ⟨some 4, .isNil .s false (.t 3) (.c .sl0), none, []⟩] .seq)
  (.cond (.t 4) (.seq (.region [⟨some 2, .move (.c .sl0), none, []⟩] .seq)
  .ret)
  .skip))
  (.seq (.region [⟨some 5, .buildSlice 95 0 5 [] [], none, []⟩,
    ⟨some 6, .move (.t 0), none, []⟩,
    ⟨some 7, .append 95 5 56 [(.int .i64 0), (.int .i64 0), (.int .i64 0), (.int .i64 0), .sl0] (.t 5) (.t 6), none, []⟩,
    ⟨some 2, .move (.t 7), none, []⟩] .seq)
  .ret)))⟩
/-- anabranch/bin.turns -/
def DF155 : AFunc := ⟨4, [.tmp 2], (.seq (.region [⟨some 1, .box 82 (.t 0), none, []⟩,
    ⟨some 2, .move (.c .fn0), none, []⟩] .seq)
  (.seq (.region [⟨some 3, .mkFunc 212 [] [(.t 1)], none, []⟩,
    ⟨some 2, .move (.t 3), none, []⟩] .seq)
  .ret))⟩
/-- anabranch/oper.kinds$1 -/
def DF156 : AFunc := ⟨3, [.tmp 2], (.seq (.region [⟨some 1, .box 84 (.t 0), none, []⟩,
    ⟨some 2, .move (.c (.bool false)), none, []⟩] .seq)
  (.seq (.region [⟨some 2, .move (.c (.bool true)), none, []⟩] .seq)
  .ret))⟩
/-- anabranch/oper.mapped -/
def DF157 : AFunc := ⟨16, [.tmp 4], (.seq (.region [⟨some 2, .box 84 (.t 0), none, []⟩,
    ⟨some 3, .box 43 (.t 1), none, []⟩,
    ⟨some 4, .move (.c .fn0), none, []⟩] .seq)
  (.seq (.region [⟨some 5, .fieldAddr 2 (.t 3), none, []⟩,
    ⟨some 6, .load1 (.t 5), none, []⟩,
    ⟨some 7, .fieldAddr 1 (.t 2), none, []⟩,
    ⟨some 8, .load1 (.t 7), none, []⟩,
    ⟨some 9, .bin .mul (.t 6) (.t 8), none, []⟩,
    ⟨some 10, .fieldAddr 2 (.t 2), none, []⟩,
    ⟨some 11, .load1 (.t 10), none, []⟩,
    ⟨some 12, .bin .add (.t 9) (.t 11), none, []⟩,
    ⟨some 13, .fieldAddr 2 (.t 3), none, []⟩,
    ⟨none, .store 1 (.t 13) (.t 12), none, []⟩] .seq)
  (.seq (.region [⟨some 14, .loadN 6 (.t 3), none, []⟩,
    ⟨some 15, .callF 213 [(.t 14)], none, []⟩,
    ⟨some 4, .move (.t 15), none, []⟩] .seq)
  .ret)))⟩
/-- anabranch/oper.kinds$2 -/
def DF158 : AFunc := ⟨11, [.tmp 2], (.seq (.region [⟨some 1, .box 84 (.t 0), none, []⟩,
    ⟨some 2, .move (.c (.bool false)), none, []⟩] .seq)
  (.seq (.region [⟨some 3, .fieldAddr 1 (.t 1), none, []⟩,
    ⟨some 4, .load1 (.t 3), none, []⟩,
    ⟨some 5, .callF 159 [(.t 4), (.c (.int .i64 1)), (.c (.int .i64 4294967295))], none, []⟩,
    ⟨some 6, .move (.t 5), none, []⟩,
    ⟨some 7, .fieldAddr 2 (.t 1), some (6, true), []⟩,
    ⟨some 8, .load1 (.t 7), some (6, true), []⟩,
    ⟨some 9, .callF 159 [(.t 8), (.c (.int .i64 0)), (.c (.int .i64 4294967295))], some (6, true), []⟩,
    ⟨some 10, .pick (.t 6) (.t 9) (.c (.bool false)), none, []⟩,
    ⟨some 2, .move (.t 10), none, []⟩] .seq)
  .ret))⟩
/-- anabranch/oper.in -/
def DF159 : AFunc := ⟨15, [.tmp 6], (.seq (.region [⟨some 6, .move (.c (.bool false)), none, []⟩] .seq)
  (.seq (.region [⟨some 7, .move (.t 0), none, []⟩,
    ⟨some 8, .move (.t 1), none, []⟩,
    ⟨some 9, .bin .geq (.t 7) (.t 8), none, []⟩,
    ⟨some 10, .move (.t 9), none, []⟩,
    ⟨some 11, .move (.t 0), some (10, true), []⟩,
    ⟨some 12, .move (.t 2), some (10, true), []⟩,
    ⟨some 13, .bin .leq (.t 11) (.t 12), some (10, true), []⟩,
    ⟨some 14, .pick (.t 10) (.t 13) (.c (.bool false)), none, []⟩,
    ⟨some 6, .move (.t 14), none, []⟩] .seq)
  .ret))⟩
/-- anabranch/oper.keyed -/
def DF160 : AFunc := ⟨20, [.tmp 4], (.seq (.region [⟨some 2, .box 84 (.t 0), none, []⟩,
    ⟨some 3, .box 43 (.t 1), none, []⟩,
    ⟨some 4, .move (.c .fn0), none, []⟩] .seq)
  (.seq (.region [⟨some 5, .fieldAddr 0 (.t 3), none, []⟩,
    ⟨some 6, .load1 (.t 5), none, [13]⟩,
    ⟨some 7, .conv .u64 (.t 6), none, []⟩,
    ⟨some 8, .fieldAddr 1 (.t 2), none, []⟩,
    ⟨some 9, .load1 (.t 8), none, [13]⟩,
    ⟨some 10, .conv .u64 (.t 9), none, []⟩,
    ⟨some 11, .bin .rem (.t 7) (.t 10), none, []⟩,
    ⟨some 12, .conv .u32 (.t 11), none, []⟩,
    ⟨some 13, .fieldAddr 2 (.t 2), none, []⟩,
    ⟨some 14, .load1 (.t 13), none, [13]⟩,
    ⟨some 15, .conv .u32 (.t 14), none, []⟩,
    ⟨some 16, .bin .add (.t 12) (.t 15), none, []⟩,
    ⟨some 17, .fieldAddr 0 (.t 3), none, []⟩,
    ⟨none, .store 1 (.t 17) (.t 16), none, []⟩] .sink)
  (.seq (.region [⟨some 18, .loadN 6 (.t 3), none, []⟩,
    ⟨some 19, .callF 213 [(.t 18)], none, []⟩,
    ⟨some 4, .move (.t 19), none, []⟩] .seq)
  .ret)))⟩
/-- anabranch/oper.kinds$3 -/
def DF161 : AFunc := ⟨13, [.tmp 2], (.seq (.region [⟨some 1, .box 84 (.t 0), none, []⟩,
    ⟨some 2, .move (.c (.bool false)), none, []⟩] .seq)
  (.seq (.region [⟨some 3, .loadN 4 (.t 1), none, []⟩,
    ⟨some 4, .callF 162 [(.t 3)], none, []⟩,
    ⟨some 5, .move (.t 4), none, []⟩,
    ⟨some 6, .fieldAddr 2 (.t 1), some (5, true), []⟩,
    ⟨some 7, .load1 (.t 6), some (5, true), []⟩,
    ⟨some 8, .fieldAddr 1 (.t 1), some (5, true), []⟩,
    ⟨some 9, .load1 (.t 8), some (5, true), []⟩,
    ⟨some 10, .bin .sub (.t 9) (.c (.int .i64 1)), some (5, true), []⟩,
    ⟨some 11, .callF 159 [(.t 7), (.c (.int .i64 0)), (.t 10)], some (5, true), []⟩,
    ⟨some 12, .pick (.t 5) (.t 11) (.c (.bool false)), none, []⟩,
    ⟨some 2, .move (.t 12), none, []⟩] .seq)
  .ret))⟩
/-- anabranch/oper.sized -/
def DF162 : AFunc := ⟨6, [.tmp 2], (.seq (.region [⟨some 1, .box 84 (.t 0), none, []⟩,
    ⟨some 2, .move (.c (.bool false)), none, []⟩] .seq)
  (.seq (.region [⟨some 3, .fieldAddr 1 (.t 1), none, []⟩,
    ⟨some 4, .load1 (.t 3), none, []⟩,
    ⟨some 5, .callF 159 [(.t 4), (.c (.int .i64 1)), (.c (.int .i64 1073741824))], none, []⟩,
    ⟨some 2, .move (.t 5), none, []⟩] .seq)
  .ret))⟩
/-- anabranch/oper.filtered -/
def DF163 : AFunc := ⟨23, [.tmp 4], (.seq (.region [⟨some 2, .box 84 (.t 0), none, []⟩,
    ⟨some 3, .box 43 (.t 1), none, []⟩,
    ⟨some 4, .move (.c .fn0), none, []⟩] .seq)
  (.seq (.region [⟨some 6, .fieldAddr 2 (.t 3), none, []⟩,
    ⟨some 7, .load1 (.t 6), none, []⟩,
    ⟨some 8, .fieldAddr 1 (.t 2), none, []⟩,
    ⟨some 9, .load1 (.t 8), none, []⟩,
    ⟨some 10, .bin .rem (.t 7) (.t 9), none, []⟩,
    ⟨some 5, .move (.t 10), none, []⟩] .seq)
  (.seq (.seq (.region [⟨some 11, .move (.t 5), none, []⟩,
    ⟨some 12, .bin .lss (.t 11) (.c (.int .i64 0)), none, []⟩] .seq)
  (.cond (.t 12) (.region [⟨some 13, .move (.t 5), none, []⟩,
    ⟨some 14, .fieldAddr 1 (.t 2), none, []⟩,
    ⟨some 15, .load1 (.t 14), none, []⟩,
    ⟨some 16, .bin .add (.t 13) (.t 15), none, []⟩,
    ⟨some 5, .move (.t 16), none, []⟩] .seq)
  .skip))
  (.seq (.seq (.region [⟨some 17, .move (.t 5), none, []⟩,
    ⟨some 18, .fieldAddr 2 (.t 2), none, []⟩,
    ⟨some 19, .load1 (.t 18), none, []⟩,
    ⟨some 20, .bin .eql (.t 17) (.t 19), none, []⟩] .seq)
  (.cond (.t 20) (.seq (.region [⟨some 21, .loadN 6 (.t 3), none, []⟩,
    ⟨some 22, .callF 213 [(.t 21)], none, []⟩,
    ⟨some 4, .move (.t 22), none, []⟩] .seq)
  .ret)
  .skip))
  (.seq (.region [⟨some 4, .move (.c (.fn 214 [] [])), none, []⟩] .seq)
  .ret)))))⟩
/-- anabranch/oper.kinds$4 -/
def DF164 : AFunc := ⟨6, [.tmp 2], (.seq (.region [⟨some 1, .box 84 (.t 0), none, []⟩,
    ⟨some 2, .move (.c (.bool false)), none, []⟩] .seq)
  (.seq (.region [⟨some 3, .fieldAddr 1 (.t 1), none, []⟩,
    ⟨some 4, .load1 (.t 3), none, []⟩,
    ⟨some 5, .callF 159 [(.t 4), (.c (.int .i64 1)), (.c (.int .i64 3))], none, []⟩,
    ⟨some 2, .move (.t 5), none, []⟩] .seq)
  .ret))⟩
/-- anabranch/oper.copied -/
def DF165 : AFunc := ⟨6, [.tmp 4], (.seq (.region [⟨some 2, .box 84 (.t 0), none, []⟩,
    ⟨some 3, .box 43 (.t 1), none, []⟩,
    ⟨some 4, .move (.c .fn0), none, []⟩] .seq)
  (.seq (.region [⟨some 5, .mkFunc 215 [] [(.t 2), (.t 3)], none, []⟩,
    ⟨some 4, .move (.t 5), none, []⟩] .seq)
  .ret))⟩
/-- anabranch/oper.plain -/
def DF166 : AFunc := ⟨10, [.tmp 2], (.seq (.region [⟨some 1, .box 84 (.t 0), none, []⟩,
    ⟨some 2, .move (.c (.bool false)), none, []⟩] .seq)
  (.seq (.region [⟨some 3, .loadN 4 (.t 1), none, []⟩,
    ⟨some 4, .callF 162 [(.t 3)], none, []⟩,
    ⟨some 5, .move (.t 4), none, []⟩,
    ⟨some 6, .fieldAddr 2 (.t 1), some (5, true), []⟩,
    ⟨some 7, .load1 (.t 6), some (5, true), []⟩,
    ⟨some 8, .bin .eql (.t 7) (.c (.int .i64 0)), some (5, true), []⟩,
    ⟨some 9, .pick (.t 5) (.t 8) (.c (.bool false)), none, []⟩,
    ⟨some 2, .move (.t 9), none, []⟩] .seq)
  .ret))⟩
/-- anabranch/oper.kinds$5 -/
def DF167 : AFunc := ⟨26, [.tmp 2], (.seq (.region [⟨some 1, .box 84 (.t 0), none, []⟩,
    ⟨some 2, .move (.c (.bool false)), none, []⟩] .seq)
  (.seq (.region [⟨some 3, .loadN 4 (.t 1), none, []⟩,
    ⟨some 4, .callF 162 [(.t 3)], none, []⟩,
    ⟨some 5, .move (.t 4), none, []⟩,
    ⟨some 6, .fieldAddr 2 (.t 1), some (5, true), []⟩,
    ⟨some 7, .load1 (.t 6), some (5, true), []⟩,
    ⟨some 8, .bin .geq (.t 7) (.c (.int .i64 1)), some (5, true), []⟩,
    ⟨some 9, .pick (.t 5) (.t 8) (.c (.bool false)), none, []⟩,
    ⟨some 10, .move (.t 9), none, []⟩,
    ⟨some 11, .fieldAddr 1 (.t 1), some (10, true), []⟩,
    ⟨some 12, .load1 (.t 11), some (10, true), []⟩,
    ⟨some 13, .fieldAddr 2 (.t 1), some (10, true), []⟩,
    ⟨some 14, .load1 (.t 13), some (10, true), []⟩,
    ⟨some 15, .bin .rem (.t 12) (.t 14), some (10, true), []⟩,
    ⟨some 16, .bin .eql (.t 15) (.c (.int .i64 0)), some (10, true), []⟩,
    ⟨some 17, .pick (.t 10) (.t 16) (.c (.bool false)), none, []⟩,
    ⟨some 18, .move (.t 17), none, []⟩,
    ⟨some 19, .fieldAddr 1 (.t 1), some (18, true), []⟩,
    ⟨some 20, .load1 (.t 19), some (18, true), []⟩,
    ⟨some 21, .fieldAddr 2 (.t 1), some (18, true), []⟩,
    ⟨some 22, .load1 (.t 21), some (18, true), []⟩,
    ⟨some 23, .bin .mul (.c (.int .i64 4)) (.t 22), some (18, true), []⟩,
    ⟨some 24, .bin .leq (.t 20) (.t 23), some (18, true), []⟩,
    ⟨some 25, .pick (.t 18) (.t 24) (.c (.bool false)), none, []⟩,
    ⟨some 2, .move (.t 25), none, []⟩] .seq)
  .ret))⟩
/-- anabranch/acc.bare -/
def DF169 : AFunc := ⟨6, [.cellN 2 5], (.seq (.region [⟨some 1, .box 26 (.t 0), none, []⟩,
    ⟨some 2, .alloc 26 [(.int .i64 0), (.int .i64 0), (.int .u64 0), (.int .i64 0), (.int .i64 0)], none, []⟩] .seq)
  (.seq (.region [⟨some 3, .fieldAddr 0 (.t 1), none, []⟩,
    ⟨some 4, .load1 (.t 3), none, []⟩,
    ⟨some 5, .build [(.int .i64 0), (.int .i64 0), (.int .u64 0), (.int .i64 0), (.int .i64 0)] [(0, 1, (.t 4))], none, []⟩,
    ⟨none, .store 5 (.t 2) (.t 5), none, []⟩] .seq)
  .ret))⟩
/-- anabranch/table.told -/
def DF173 : AFunc := ⟨15, [], (.seq (.region [⟨some 5, .recover, none, []⟩] .seq)
  (.block 0 (.seq (.region [⟨some 7, .isNil .i false (.t 5) (.c .if0), none, []⟩] .seq)
  (.cond (.t 7) (.region [⟨some 2, .move (.t 5), none, []⟩] .seq)
  (.seq (.region [⟨some 8, .assert 284 (.agg [(.int .i64 0)]) true (.t 5), none, []⟩,
    ⟨some 9, .extract (.t 8) 1, none, []⟩,
    ⟨some 10, .extract (.t 8) 0, none, []⟩] .seq)
  (.cond (.t 9) (.seq (.region [⟨some 3, .alloc 284 [(.int .i64 0)], none, []⟩,
    ⟨none, .store 1 (.t 3) (.t 10), none, []⟩] .seq)
  (.region [⟨some 11, .move (.t 0), none, []⟩,
    ⟨some 12, .fieldAddr 0 (.t 3), none, []⟩,
    ⟨some 13, .load1 (.t 12), none, []⟩,
    ⟨some 14, .nilCheck (.t 11), none, []⟩,
    ⟨none, .store 1 (.t 14) (.t 13), none, []⟩] .seq))
  (.seq (.region [⟨some 4, .move (.t 5), none, []⟩] .seq)
  (.region [⟨some 6, .move (.t 4), none, []⟩,
    ⟨none, .panic (.t 6), none, []⟩] .seq))))))))⟩
/-- anabranch/table.must -/
def DF174 : AFunc := ⟨9, [], (.seq (.region [⟨some 4, .move (.t 0), none, []⟩,
    ⟨some 5, .un .not (.t 4), none, []⟩] .seq)
  (.cond (.t 5) (.region [⟨some 6, .move (.t 1), none, []⟩,
    ⟨some 7, .build [(.int .i64 0)] [(0, 1, (.t 6))], none, []⟩,
    ⟨some 8, .mkIface 284 (.t 7), none, []⟩,
    ⟨none, .panic (.t 8), none, []⟩] .seq)
  .skip))⟩
/-- (*anabranch/table.Table).last -/
def DF175 : AFunc := ⟨22, [.tmp 2], (.seq (.region [⟨some 2, .move (.c (.int .i64 0)), none, []⟩] .seq)
  (.seq (.seq (.region [⟨some 3, .move (.t 0), none, []⟩,
    ⟨some 4, .nilCheck (.t 3), none, []⟩,
    ⟨some 5, .fieldAddr 9 (.t 4), none, []⟩,
    ⟨some 6, .load1 (.t 5), none, []⟩,
    ⟨some 7, .len .sl (.t 6), none, []⟩,
    ⟨some 8, .bin .eql (.t 7) (.c (.int .i64 0)), none, []⟩] .seq)
  (.cond (.t 8) (.seq (.region [⟨some 2, .move (.c (.int .i64 0)), none, []⟩] .seq)
  .ret)
  .skip))
  (.seq (.region [⟨some 9, .move (.t 0), none, []⟩,
    ⟨some 10, .nilCheck (.t 9), none, []⟩,
    ⟨some 11, .fieldAddr 9 (.t 10), none, []⟩,
    ⟨some 12, .load1 (.t 11), none, [14]⟩,
    ⟨some 13, .move (.t 0), none, []⟩,
    ⟨some 14, .nilCheck (.t 13), none, []⟩,
    ⟨some 15, .fieldAddr 9 (.t 14), none, []⟩,
    ⟨some 16, .load1 (.t 15), none, [14]⟩,
    ⟨some 17, .len .sl (.t 16), none, []⟩,
    ⟨some 18, .bin .sub (.t 17) (.c (.int .i64 1)), none, []⟩,
    ⟨some 19, .indexAddrS 10 (.t 12) (.t 18), none, []⟩,
    ⟨some 20, .fieldAddr 1 (.t 19), none, []⟩,
    ⟨some 21, .load1 (.t 20), none, [14]⟩,
    ⟨some 2, .move (.t 21), none, []⟩] .sink)
  .ret)))⟩
/-- (*anabranch/table.Table).move -/
def DF176 : AFunc := ⟨33, [], (.seq (.region [⟨some 3, .box 86 (.t 1), none, []⟩] .seq)
  (.seq (.region [⟨some 6, .fieldAddr 2 (.t 3), none, []⟩,
    ⟨some 7, .load1 (.t 6), none, []⟩,
    ⟨some 8, .callF 217 [(.t 7)], none, []⟩,
    ⟨some 9, .callF 174 [(.t 8), (.c (.int .i64 15))], none, []⟩] .seq)
  (.seq (.region [⟨some 10, .move (.t 0), none, []⟩,
    ⟨some 11, .nilCheck (.t 10), none, []⟩,
    ⟨some 12, .fieldAddr 18 (.t 11), none, []⟩,
    ⟨some 13, .load1 (.t 12), none, [6]⟩,
    ⟨some 14, .fieldAddr 3 (.t 3), none, []⟩,
    ⟨some 15, .load1 (.t 14), none, [6]⟩,
    ⟨some 16, .callF 218 [(.t 13), (.t 15)], none, []⟩,
    ⟨some 17, .callF 174 [(.t 16), (.c (.int .i64 16))], none, []⟩] .sink)
  (.seq (.region [⟨some 18, .fieldAddr 2 (.t 3), none, []⟩,
    ⟨some 19, .load1 (.t 18), none, []⟩,
    ⟨some 20, .len .sl (.t 19), none, []⟩,
    ⟨some 21, .move (.c (.int .i64 0)), none, []⟩] .seq)
  (.block 0 (.loop (.seq (.region [⟨some 22, .bin .lss (.t 21) (.t 20), none, []⟩] .seq)
  (.seq (.cond (.t 22) .skip
  (.exit 0))
  (.seq (.block 1 (.seq (.region [⟨some 23, .indexAddrS 1 (.t 19) (.t 21), none, []⟩,
    ⟨some 24, .load1 (.t 23), none, []⟩,
    ⟨some 5, .move (.t 24), none, []⟩] .seq)
  (.region [⟨some 25, .move (.t 0), none, []⟩,
    ⟨some 26, .move (.t 5), none, []⟩,
    ⟨some 27, .callF 110 [(.t 25), (.t 26)], none, []⟩,
    ⟨some 28, .fieldAddr 3 (.t 3), none, []⟩,
    ⟨some 29, .load1 (.t 28), none, [2, 6]⟩,
    ⟨some 30, .bin .neq (.t 27) (.t 29), none, []⟩,
    ⟨some 31, .callF 174 [(.t 30), (.c (.int .i64 17))], none, []⟩] .sink)))
  (.region [⟨some 32, .bin .add (.t 21) (.c (.int .i64 1)), none, []⟩,
    ⟨some 21, .move (.t 32), none, []⟩] .seq))))))))))⟩
/-- (*anabranch/table.Table).join -/
def DF177 : AFunc := ⟨23, [], (.seq (.region [⟨some 3, .box 86 (.t 1), none, []⟩] .seq)
  (.seq (.region [⟨some 4, .fieldAddr 3 (.t 3), none, []⟩,
    ⟨some 5, .load1 (.t 4), none, [8]⟩,
    ⟨some 6, .move (.t 0), none, []⟩,
    ⟨some 7, .nilCheck (.t 6), none, []⟩,
    ⟨some 8, .fieldAddr 0 (.t 7), none, []⟩,
    ⟨some 9, .fieldAddr 4 (.t 8), none, []⟩,
    ⟨some 10, .fieldAddr 0 (.t 9), none, []⟩,
    ⟨some 11, .load1 (.t 10), none, [8]⟩,
    ⟨some 12, .callF 86 [(.t 5), (.c (.int .i64 1)), (.t 11)], none, []⟩,
    ⟨some 13, .callF 174 [(.t 12), (.c (.int .i64 16))], none, []⟩] .sink)
  (.region [⟨some 14, .move (.t 0), none, []⟩,
    ⟨some 15, .nilCheck (.t 14), none, []⟩,
    ⟨some 16, .fieldAddr 18 (.t 15), none, []⟩,
    ⟨some 17, .load1 (.t 16), none, [6]⟩,
    ⟨some 18, .fieldAddr 3 (.t 3), none, []⟩,
    ⟨some 19, .load1 (.t 18), none, [6]⟩,
    ⟨some 20, .callF 218 [(.t 17), (.t 19)], none, []⟩,
    ⟨some 21, .un .not (.t 20), none, []⟩,
    ⟨some 22, .callF 174 [(.t 21), (.c (.int .i64 11))], none, []⟩] .sink)))⟩
/-- (*anabranch/table.Table).leave -/
def DF178 : AFunc := ⟨19, [], (.seq (.region [⟨some 3, .box 86 (.t 1), none, []⟩] .seq)
  (.seq (.region [⟨some 4, .move (.t 0), none, []⟩,
    ⟨some 5, .nilCheck (.t 4), none, []⟩,
    ⟨some 6, .fieldAddr 18 (.t 5), none, []⟩,
    ⟨some 7, .load1 (.t 6), none, [6]⟩,
    ⟨some 8, .fieldAddr 3 (.t 3), none, []⟩,
    ⟨some 9, .load1 (.t 8), none, [6]⟩,
    ⟨some 10, .callF 218 [(.t 7), (.t 9)], none, []⟩,
    ⟨some 11, .callF 174 [(.t 10), (.c (.int .i64 16))], none, []⟩] .sink)
  (.region [⟨some 12, .move (.t 0), none, []⟩,
    ⟨some 13, .nilCheck (.t 12), none, []⟩,
    ⟨some 14, .fieldAddr 18 (.t 13), none, []⟩,
    ⟨some 15, .load1 (.t 14), none, []⟩,
    ⟨some 16, .len .sl (.t 15), none, []⟩,
    ⟨some 17, .bin .gtr (.t 16) (.c (.int .i64 1)), none, []⟩,
    ⟨some 18, .callF 174 [(.t 17), (.c (.int .i64 10))], none, []⟩] .seq)))⟩
/-- (*anabranch/table.Table).replace -/
def DF179 : AFunc := ⟨38, [], (.seq (.region [⟨some 3, .box 86 (.t 1), none, []⟩] .seq)
  (.seq (.region [⟨some 4, .fieldAddr 4 (.t 3), none, []⟩,
    ⟨some 5, .load1 (.t 4), none, [8]⟩,
    ⟨some 6, .move (.t 0), none, []⟩,
    ⟨some 7, .nilCheck (.t 6), none, []⟩,
    ⟨some 8, .fieldAddr 19 (.t 7), none, []⟩,
    ⟨some 9, .load1 (.t 8), none, [8]⟩,
    ⟨some 10, .len .sl (.t 9), none, []⟩,
    ⟨some 11, .bin .sub (.t 10) (.c (.int .i64 1)), none, []⟩,
    ⟨some 12, .callF 86 [(.t 5), (.c (.int .i64 0)), (.t 11)], none, []⟩,
    ⟨some 13, .move (.t 12), none, []⟩,
    ⟨some 14, .fieldAddr 9 (.t 3), some (13, true), []⟩,
    ⟨some 15, .load1 (.t 14), some (13, true), [12]⟩,
    ⟨some 16, .callF 86 [(.t 15), (.c (.int .i64 0)), (.c (.int .i64 2))], some (13, true), []⟩,
    ⟨some 17, .pick (.t 13) (.t 16) (.c (.bool false)), none, []⟩,
    ⟨some 18, .callF 174 [(.t 17), (.c (.int .i64 2))], none, []⟩] .sink)
  (.seq (.region [⟨some 19, .fieldAddr 5 (.t 3), none, []⟩,
    ⟨some 20, .loadN 4 (.t 19), none, []⟩,
    ⟨some 21, .callF 140 [(.t 20)], none, []⟩,
    ⟨some 22, .bin .eql (.t 21) (.c (.int .i64 0)), none, []⟩,
    ⟨some 23, .callF 174 [(.t 22), (.c (.int .i64 13))], none, []⟩] .seq)
  (.region [⟨some 24, .fieldAddr 5 (.t 3), none, []⟩,
    ⟨some 25, .loadN 4 (.t 24), none, [2]⟩,
    ⟨some 26, .callF 49 [(.t 25)], none, []⟩,
    ⟨some 27, .move (.t 0), none, []⟩,
    ⟨some 28, .nilCheck (.t 27), none, []⟩,
    ⟨some 29, .fieldAddr 19 (.t 28), none, []⟩,
    ⟨some 30, .load1 (.t 29), none, [2, 11]⟩,
    ⟨some 31, .fieldAddr 4 (.t 3), none, []⟩,
    ⟨some 32, .load1 (.t 31), none, [2, 11]⟩,
    ⟨some 33, .indexAddrS 4 (.t 30) (.t 32), none, []⟩,
    ⟨some 34, .loadN 4 (.t 33), none, [2, 11]⟩,
    ⟨some 35, .callF 49 [(.t 34)], none, []⟩,
    ⟨some 36, .bin .eql (.t 26) (.t 35), none, []⟩,
    ⟨some 37, .callF 174 [(.t 36), (.c (.int .i64 14))], none, []⟩] .sink))))⟩
/-- anabranch/bin.Turns -/
def DF180 : AFunc := ⟨19, [.cell1 4], (.seq (.region [⟨some 2, .box 82 (.t 0), none, []⟩,
    ⟨some 4, .alloc 82 [.sl0], none, []⟩] .seq)
  (.seq (.seq (.region [⟨some 6, .move (.t 1), none, []⟩,
    ⟨some 7, .callF 155 [(.t 6)], none, []⟩] .seq)
  (.block 0 (.rangeFunc (.t 7) [8] (.region [⟨some 5, .move (.t 8), none, []⟩] .seq)
  (.block 1 (.seq (.seq (.region [⟨some 9, .load1 (.t 4), none, []⟩,
    ⟨some 10, .len .sl (.t 9), none, []⟩,
    ⟨some 11, .load1 (.t 2), none, []⟩,
    ⟨some 12, .len .sl (.t 11), none, []⟩,
    ⟨some 13, .bin .eql (.t 10) (.t 12), none, []⟩] .seq)
  (.cond (.t 13) (.exit 0)
  .skip))
  (.region [⟨some 14, .load1 (.t 4), none, []⟩,
    ⟨some 15, .move (.t 5), none, []⟩,
    ⟨some 16, .buildSlice 3 1 1 [(.int .i64 0)] [(0, 1, (.t 15))], none, []⟩,
    ⟨some 17, .append 3 1 8 [(.int .i64 0)] (.t 14) (.t 16), none, []⟩,
    ⟨none, .store 1 (.t 4) (.t 17), none, []⟩] .seq))))))
  (.seq (.region [⟨some 18, .load1 (.t 4), none, []⟩,
    ⟨none, .store 1 (.t 4) (.t 18), none, []⟩] .seq)
  .ret)))⟩
/-- slices.pdqsortOrdered[int] -/
def DF181 : AFunc := ⟨134, [], (.seq (.region [⟨some 8, .move (.c (.bool true)), none, []⟩] .seq)
  (.seq (.region [⟨some 9, .move (.c (.bool true)), none, []⟩] .seq)
  (.block 0 (.loop (.block 1 (.seq (.region [⟨some 19, .move (.t 2), none, []⟩,
    ⟨some 20, .move (.t 1), none, []⟩,
    ⟨some 21, .bin .sub (.t 19) (.t 20), none, []⟩,
    ⟨some 10, .move (.t 21), none, []⟩] .seq)
  (.seq (.seq (.region [⟨some 22, .move (.t 10), none, []⟩,
    ⟨some 23, .bin .leq (.t 22) (.c (.int .i64 12)), none, []⟩] .seq)
  (.cond (.t 23) (.seq (.region [⟨some 24, .move (.t 0), none, []⟩,
    ⟨some 25, .move (.t 1), none, []⟩,
    ⟨some 26, .move (.t 2), none, []⟩,
    ⟨some 27, .callF 219 [(.t 24), (.t 25), (.t 26)], none, []⟩] .seq)
  .ret)
  .skip))
  (.seq (.seq (.region [⟨some 28, .move (.t 3), none, []⟩,
    ⟨some 29, .bin .eql (.t 28) (.c (.int .i64 0)), none, []⟩] .seq)
  (.cond (.t 29) (.seq (.region [⟨some 30, .move (.t 0), none, []⟩,
    ⟨some 31, .move (.t 1), none, []⟩,
    ⟨some 32, .move (.t 2), none, []⟩,
    ⟨some 33, .callF 220 [(.t 30), (.t 31), (.t 32)], none, []⟩] .seq)
  .ret)
  .skip))
  (.seq (.seq (.region [⟨some 34, .move (.t 8), none, []⟩,
    ⟨some 35, .un .not (.t 34), none, []⟩] .seq)
  (.cond (.t 35) (.seq (.region [⟨some 36, .move (.t 0), none, []⟩,
    ⟨some 37, .move (.t 1), none, []⟩,
    ⟨some 38, .move (.t 2), none, []⟩,
    ⟨some 39, .callF 221 [(.t 36), (.t 37), (.t 38)], none, []⟩] .seq)
  (.region [⟨some 40, .move (.t 3), none, []⟩,
    ⟨some 41, .bin .sub (.t 40) (.c (.int .i64 1)), none, []⟩,
    ⟨some 3, .move (.t 41), none, []⟩] .seq))
  .skip))
  (.seq (.region [⟨some 43, .move (.t 0), none, []⟩,
    ⟨some 44, .move (.t 1), none, []⟩,
    ⟨some 45, .move (.t 2), none, []⟩,
    ⟨some 46, .callF 222 [(.t 43), (.t 44), (.t 45)], none, []⟩,
    ⟨some 42, .move (.t 46), none, []⟩,
    ⟨some 47, .extract (.t 42) 0, none, []⟩,
    ⟨some 48, .extract (.t 42) 1, none, []⟩,
    ⟨some 11, .move (.t 47), none, []⟩,
    ⟨some 12, .move (.t 48), none, []⟩] .seq)
  (.seq (.seq (.region [⟨some 49, .move (.t 12), none, []⟩,
    ⟨some 50, .bin .eql (.t 49) (.c (.int .i64 2)), none, []⟩] .seq)
  (.cond (.t 50) (.seq (.region [⟨some 51, .move (.t 0), none, []⟩,
    ⟨some 52, .move (.t 1), none, []⟩,
    ⟨some 53, .move (.t 2), none, []⟩,
    ⟨some 54, .callF 223 [(.t 51), (.t 52), (.t 53)], none, []⟩] .seq)
  (.seq (.region [⟨some 55, .move (.t 2), none, []⟩,
    ⟨some 56, .bin .sub (.t 55) (.c (.int .i64 1)), none, []⟩,
    ⟨some 57, .move (.t 11), none, []⟩,
    ⟨some 58, .move (.t 1), none, []⟩,
    ⟨some 59, .bin .sub (.t 57) (.t 58), none, []⟩,
    ⟨some 60, .bin .sub (.t 56) (.t 59), none, []⟩,
    ⟨some 11, .move (.t 60), none, []⟩] .seq)
  (.region [⟨some 12, .move (.c (.int .i64 1)), none, []⟩] .seq)))
  .skip))
  (.seq (.seq (.region [⟨some 61, .move (.t 8), none, []⟩,
    ⟨some 62, .move (.t 61), none, []⟩,
    ⟨some 63, .move (.t 9), some (62, true), []⟩,
    ⟨some 64, .pick (.t 62) (.t 63) (.c (.bool false)), none, []⟩,
    ⟨some 65, .move (.t 64), none, []⟩,
    ⟨some 66, .move (.t 12), some (65, true), []⟩,
    ⟨some 67, .bin .eql (.t 66) (.c (.int .i64 1)), some (65, true), []⟩,
    ⟨some 68, .pick (.t 65) (.t 67) (.c (.bool false)), none, []⟩] .seq)
  (.cond (.t 68) (.seq (.region [⟨some 69, .move (.t 0), none, []⟩,
    ⟨some 70, .move (.t 1), none, []⟩,
    ⟨some 71, .move (.t 2), none, []⟩,
    ⟨some 72, .callF 224 [(.t 69), (.t 70), (.t 71)], none, []⟩] .seq)
  (.cond (.t 72) .ret
  .skip))
  .skip))
  (.seq (.seq (.region [⟨some 73, .move (.t 1), none, []⟩,
    ⟨some 74, .bin .gtr (.t 73) (.c (.int .i64 0)), none, []⟩,
    ⟨some 75, .move (.t 74), none, []⟩,
    ⟨some 76, .move (.t 0), some (75, true), []⟩,
    ⟨some 77, .move (.t 1), some (75, true), []⟩,
    ⟨some 78, .bin .sub (.t 77) (.c (.int .i64 1)), some (75, true), []⟩,
    ⟨some 79, .indexAddrS 1 (.t 76) (.t 78), some (75, true), []⟩,
    ⟨some 80, .load1 (.t 79), some (75, true), [12]⟩,
    ⟨some 81, .move (.t 0), some (75, true), []⟩,
    ⟨some 82, .move (.t 11), some (75, true), []⟩,
    ⟨some 83, .indexAddrS 1 (.t 81) (.t 82), some (75, true), []⟩,
    ⟨some 84, .load1 (.t 83), some (75, true), [12]⟩,
    ⟨some 85, .callF 225 [(.t 80), (.t 84)], some (75, true), []⟩,
    ⟨some 86, .un .not (.t 85), some (75, true), []⟩,
    ⟨some 87, .pick (.t 75) (.t 86) (.c (.bool false)), none, []⟩] .sink)
  (.cond (.t 87) (.seq (.region [⟨some 88, .move (.t 0), none, []⟩,
    ⟨some 89, .move (.t 1), none, []⟩,
    ⟨some 90, .move (.t 2), none, []⟩,
    ⟨some 91, .move (.t 11), none, []⟩,
    ⟨some 92, .callF 226 [(.t 88), (.t 89), (.t 90), (.t 91)], none, []⟩,
    ⟨some 13, .move (.t 92), none, []⟩] .seq)
  (.seq (.region [⟨some 93, .move (.t 13), none, []⟩,
    ⟨some 1, .move (.t 93), none, []⟩] .seq)
  (.exit 1)))
  .skip))
  (.seq (.region [⟨some 95, .move (.t 0), none, []⟩,
    ⟨some 96, .move (.t 1), none, []⟩,
    ⟨some 97, .move (.t 2), none, []⟩,
    ⟨some 98, .move (.t 11), none, []⟩,
    ⟨some 99, .callF 227 [(.t 95), (.t 96), (.t 97), (.t 98)], none, []⟩,
    ⟨some 94, .move (.t 99), none, []⟩,
    ⟨some 100, .extract (.t 94) 0, none, []⟩,
    ⟨some 101, .extract (.t 94) 1, none, []⟩,
    ⟨some 14, .move (.t 100), none, []⟩,
    ⟨some 15, .move (.t 101), none, []⟩] .seq)
  (.seq (.region [⟨some 102, .move (.t 15), none, []⟩,
    ⟨some 9, .move (.t 102), none, []⟩] .seq)
  (.seq (.region [⟨some 103, .move (.t 14), none, []⟩,
    ⟨some 104, .move (.t 1), none, []⟩,
    ⟨some 105, .bin .sub (.t 103) (.t 104), none, []⟩,
    ⟨some 106, .move (.t 2), none, []⟩,
    ⟨some 107, .move (.t 14), none, []⟩,
    ⟨some 108, .bin .sub (.t 106) (.t 107), none, []⟩,
    ⟨some 16, .move (.t 105), none, []⟩,
    ⟨some 17, .move (.t 108), none, []⟩] .seq)
  (.seq (.region [⟨some 109, .move (.t 10), none, []⟩,
    ⟨some 110, .bin .quo (.t 109) (.c (.int .i64 8)), none, []⟩,
    ⟨some 18, .move (.t 110), none, []⟩] .seq)
  (.seq (.region [⟨some 111, .move (.t 16), none, []⟩,
    ⟨some 112, .move (.t 17), none, []⟩,
    ⟨some 113, .bin .lss (.t 111) (.t 112), none, []⟩] .seq)
  (.cond (.t 113) (.seq (.region [⟨some 114, .move (.t 16), none, []⟩,
    ⟨some 115, .move (.t 18), none, []⟩,
    ⟨some 116, .bin .geq (.t 114) (.t 115), none, []⟩,
    ⟨some 8, .move (.t 116), none, []⟩] .seq)
  (.seq (.region [⟨some 117, .move (.t 0), none, []⟩,
    ⟨some 118, .move (.t 1), none, []⟩,
    ⟨some 119, .move (.t 14), none, []⟩,
    ⟨some 120, .move (.t 3), none, []⟩,
    ⟨some 121, .callF 181 [(.t 117), (.t 118), (.t 119), (.t 120)], none, []⟩] .seq)
  (.region [⟨some 122, .move (.t 14), none, []⟩,
    ⟨some 123, .bin .add (.t 122) (.c (.int .i64 1)), none, []⟩,
    ⟨some 1, .move (.t 123), none, []⟩] .seq)))
  (.seq (.region [⟨some 124, .move (.t 17), none, []⟩,
    ⟨some 125, .move (.t 18), none, []⟩,
    ⟨some 126, .bin .geq (.t 124) (.t 125), none, []⟩,
    ⟨some 8, .move (.t 126), none, []⟩] .seq)
  (.seq (.region [⟨some 127, .move (.t 0), none, []⟩,
    ⟨some 128, .move (.t 14), none, []⟩,
    ⟨some 129, .bin .add (.t 128) (.c (.int .i64 1)), none, []⟩,
    ⟨some 130, .move (.t 2), none, []⟩,
    ⟨some 131, .move (.t 3), none, []⟩,
    ⟨some 132, .callF 181 [(.t 127), (.t 129), (.t 130), (.t 131)], none, []⟩] .seq)
  (.region [⟨some 133, .move (.t 14), none, []⟩,
    ⟨some 2, .move (.t 133), none, []⟩] .seq))))))))))))))))))))))⟩

end Go.Eng
