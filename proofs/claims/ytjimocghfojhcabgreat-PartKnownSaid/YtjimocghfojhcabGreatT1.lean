/- The abstract code of the functions that the statement reaches: first half. Without conditions. -/
import Derived.Test.YtjimocghfojhcabGreatE2
namespace Go.Eng
set_option maxRecDepth 100000
set_option linter.unusedVariables false
/-- anabranch/anabranchlaw11.PartKnown -/
def BF3 : AFunc := ⟨263, [.tmp 0], (.seq (.region [⟨some 0, .move (.c (.bool false)), none, []⟩] .seq)
  (.seq (.region [⟨some 1, .move (.c .ptr0), none, []⟩] .seq)
  (.seq (.region [⟨some 27, .move (.t 1), none, []⟩,
    ⟨some 28, .callF 9 [(.t 27), (.c (.int .i64 5))], none, []⟩,
    ⟨some 26, .move (.t 28), none, []⟩,
    ⟨some 29, .extract (.t 26) 0, none, []⟩,
    ⟨some 30, .extract (.t 26) 1, none, []⟩,
    ⟨some 31, .extract (.t 26) 2, none, []⟩,
    ⟨some 2, .alloc 28 [(.int .i64 0), (.int .u32 0), (.int .i64 0), (.int .i64 0), (.int .u8 0), (.int .i64 0), (.int .i64 0), (.int .u64 0), (.int .i64 0), (.int .i64 0)], none, []⟩,
    ⟨none, .store 10 (.t 2) (.t 29), none, []⟩,
    ⟨some 3, .move (.t 30), none, []⟩,
    ⟨some 4, .move (.t 31), none, []⟩] .seq)
  (.seq (.region [⟨some 33, .move (.t 1), none, []⟩,
    ⟨some 34, .callF 10 [(.t 33), (.c (.int .i64 5))], none, []⟩,
    ⟨some 32, .move (.t 34), none, []⟩,
    ⟨some 35, .extract (.t 32) 0, none, []⟩,
    ⟨some 36, .extract (.t 32) 1, none, []⟩,
    ⟨some 5, .move (.t 35), none, []⟩,
    ⟨some 6, .move (.t 36), none, []⟩] .seq)
  (.seq (.region [⟨some 38, .build [(.int .u8 0), (.int .u8 0), (.int .u8 0), (.int .u8 0)] [(0, 1, (.c (.int .u8 3))), (1, 1, (.c (.int .u8 4)))], none, []⟩,
    ⟨some 39, .callF 11 [(.t 38)], none, []⟩,
    ⟨some 37, .move (.t 39), none, []⟩,
    ⟨some 40, .extract (.t 37) 0, none, []⟩,
    ⟨some 41, .extract (.t 37) 1, none, []⟩,
    ⟨some 7, .move (.t 40), none, []⟩,
    ⟨some 8, .move (.t 41), none, []⟩] .seq)
  (.seq (.region [⟨some 43, .build [(.int .u8 0), (.int .u8 0), (.int .u8 0), (.int .u8 0)] [(0, 1, (.c (.int .u8 2))), (1, 1, (.c (.int .u8 4))), (3, 1, (.c (.int .u8 1)))], none, []⟩,
    ⟨some 44, .callF 11 [(.t 43)], none, []⟩,
    ⟨some 42, .move (.t 44), none, []⟩,
    ⟨some 45, .extract (.t 42) 0, none, []⟩,
    ⟨some 46, .extract (.t 42) 1, none, []⟩,
    ⟨some 9, .move (.t 45), none, []⟩,
    ⟨some 10, .move (.t 46), none, []⟩] .seq)
  (.seq (.region [⟨some 47, .move (.t 7), none, []⟩,
    ⟨some 48, .callF 12 [(.t 47), (.c (.int .i64 1))], none, []⟩,
    ⟨some 49, .move (.t 9), none, []⟩,
    ⟨some 50, .callF 12 [(.t 49), (.c (.int .i64 1))], none, []⟩,
    ⟨some 11, .move (.t 48), none, []⟩,
    ⟨some 12, .move (.t 50), none, []⟩] .seq)
  (.seq (.seq (.region [⟨some 51, .move (.t 11), none, []⟩,
    ⟨some 52, .isNil .p false (.t 51) (.c .ptr0), none, []⟩,
    ⟨some 53, .move (.t 52), none, []⟩,
    ⟨some 54, .move (.t 12), some (53, false), []⟩,
    ⟨some 55, .isNil .p false (.t 54) (.c .ptr0), some (53, false), []⟩,
    ⟨some 56, .pick (.t 53) (.c (.bool true)) (.t 55), none, []⟩] .seq)
  (.cond (.t 56) (.seq (.region [⟨some 0, .move (.c (.bool false)), none, []⟩] .seq)
  .ret)
  .skip))
  (.seq (.region [⟨some 57, .move (.t 11), none, []⟩,
    ⟨some 58, .build [(.int .u32 0), (.int .i64 0), (.int .i64 0), (.int .u8 0), (.bool false), (.bool false)] [(0, 1, (.c (.int .u32 1))), (1, 1, (.c (.int .i64 10))), (2, 1, (.c (.int .i64 3)))], none, []⟩,
    ⟨some 59, .callF 13 [(.t 57), (.t 58)], none, []⟩] .seq)
  (.seq (.region [⟨some 60, .move (.t 11), none, []⟩,
    ⟨some 61, .build [(.int .u32 0), (.int .i64 0), (.int .i64 0), (.int .u8 0), (.bool false), (.bool false)] [(0, 1, (.c (.int .u32 1))), (1, 1, (.c (.int .i64 15))), (2, 1, (.c (.int .i64 4))), (3, 1, (.c (.int .u8 1)))], none, []⟩,
    ⟨some 62, .callF 13 [(.t 60), (.t 61)], none, []⟩,
    ⟨some 13, .move (.t 62), none, []⟩] .seq)
  (.seq (.region [⟨some 63, .move (.t 11), none, []⟩,
    ⟨some 64, .build [(.int .u32 0), (.int .i64 0), (.int .i64 0), (.int .u8 0), (.bool false), (.bool false)] [(0, 1, (.c (.int .u32 1))), (1, 1, (.c (.int .i64 16))), (2, 1, (.c (.int .i64 9))), (3, 1, (.c (.int .u8 3)))], none, []⟩,
    ⟨some 65, .callF 13 [(.t 63), (.t 64)], none, []⟩,
    ⟨some 14, .move (.t 65), none, []⟩] .seq)
  (.seq (.region [⟨some 66, .move (.t 11), none, []⟩,
    ⟨some 67, .build [(.int .u32 0), (.int .i64 0), (.int .i64 0), (.int .u8 0), (.bool false), (.bool false)] [(0, 1, (.c (.int .u32 2))), (1, 1, (.c (.int .i64 15))), (2, 1, (.c (.int .i64 4))), (3, 1, (.c (.int .u8 1)))], none, []⟩,
    ⟨some 68, .callF 13 [(.t 66), (.t 67)], none, []⟩,
    ⟨some 15, .move (.t 68), none, []⟩] .seq)
  (.seq (.region [⟨some 69, .move (.t 11), none, []⟩,
    ⟨some 70, .build [(.int .i64 0), (.int .i64 0), (.int .u64 0), (.int .i64 0), (.int .i64 0)] [(0, 1, (.c (.int .i64 1))), (2, 1, (.c (.int .u64 1))), (3, 1, (.c (.int .i64 1))), (4, 1, (.c (.int .i64 1)))], none, []⟩,
    ⟨some 71, .build [(.int .i64 0), (.int .u32 0), (.int .i64 0), (.int .i64 0), (.int .u8 0), (.int .i64 0), (.int .i64 0), (.int .u64 0), (.int .i64 0), (.int .i64 0)] [(1, 1, (.c (.int .u32 1))), (2, 1, (.c (.int .i64 14))), (3, 1, (.c (.int .i64 20))), (5, 5, (.t 70))], none, []⟩,
    ⟨some 72, .callF 14 [(.t 69), (.t 71), (.c (.int .i64 16))], none, []⟩,
    ⟨some 16, .move (.t 72), none, []⟩] .seq)
  (.seq (.region [⟨some 73, .move (.t 11), none, []⟩,
    ⟨some 74, .build [(.int .u32 0), (.int .i64 0), (.int .i64 0), (.int .u8 0), (.bool false), (.bool false)] [(4, 1, (.c (.bool true))), (1, 1, (.c (.int .i64 1)))], none, []⟩,
    ⟨some 75, .callF 13 [(.t 73), (.t 74)], none, []⟩,
    ⟨some 17, .move (.t 75), none, []⟩] .seq)
  (.seq (.region [⟨some 77, .move (.t 11), none, []⟩,
    ⟨some 78, .callF 10 [(.t 77), (.c (.int .i64 16))], none, []⟩,
    ⟨some 76, .move (.t 78), none, []⟩,
    ⟨some 79, .extract (.t 76) 0, none, []⟩,
    ⟨some 80, .extract (.t 76) 1, none, []⟩,
    ⟨some 18, .move (.t 79), none, []⟩,
    ⟨some 19, .move (.t 80), none, []⟩] .seq)
  (.seq (.region [⟨some 81, .move (.t 11), none, []⟩,
    ⟨some 82, .callF 15 [(.t 81)], none, []⟩,
    ⟨some 20, .move (.t 82), none, []⟩] .seq)
  (.seq (.region [⟨some 83, .move (.t 12), none, []⟩,
    ⟨some 84, .build [(.int .u32 0), (.int .i64 0), (.int .i64 0), (.int .u8 0), (.bool false), (.bool false)] [(1, 1, (.c (.int .i64 10))), (2, 1, (.c (.int .i64 9223372036854775807)))], none, []⟩,
    ⟨some 85, .callF 13 [(.t 83), (.t 84)], none, []⟩] .seq)
  (.seq (.region [⟨some 86, .move (.t 12), none, []⟩,
    ⟨some 87, .build [(.int .u32 0), (.int .i64 0), (.int .i64 0), (.int .u8 0), (.bool false), (.bool false)] [(1, 1, (.c (.int .i64 20))), (2, 1, (.c (.int .i64 1)))], none, []⟩,
    ⟨some 88, .callF 13 [(.t 86), (.t 87)], none, []⟩] .seq)
  (.seq (.region [⟨some 89, .move (.t 12), none, []⟩,
    ⟨some 90, .build [(.int .u32 0), (.int .i64 0), (.int .i64 0), (.int .u8 0), (.bool false), (.bool false)] [(1, 1, (.c (.int .i64 15))), (2, 1, (.c (.int .i64 1)))], none, []⟩,
    ⟨some 91, .callF 13 [(.t 89), (.t 90)], none, []⟩] .seq)
  (.seq (.region [⟨some 92, .move (.t 12), none, []⟩,
    ⟨some 93, .callF 15 [(.t 92)], none, []⟩,
    ⟨some 21, .move (.t 93), none, []⟩] .seq)
  (.seq (.region [⟨some 94, .move (.t 12), none, []⟩,
    ⟨some 95, .build [(.int .u32 0), (.int .i64 0), (.int .i64 0), (.int .u8 0), (.bool false), (.bool false)] [(1, 1, (.c (.int .i64 12))), (2, 1, (.c (.int .i64 (-1))))], none, []⟩,
    ⟨some 96, .callF 13 [(.t 94), (.t 95)], none, []⟩] .seq)
  (.seq (.region [⟨some 97, .move (.t 12), none, []⟩,
    ⟨some 98, .build [(.int .u32 0), (.int .i64 0), (.int .i64 0), (.int .u8 0), (.bool false), (.bool false)] [(1, 1, (.c (.int .i64 17))), (2, 1, (.c (.int .i64 1)))], none, []⟩,
    ⟨some 99, .callF 13 [(.t 97), (.t 98)], none, []⟩] .seq)
  (.seq (.region [⟨some 100, .move (.t 12), none, []⟩,
    ⟨some 101, .callF 16 [(.t 100)], none, []⟩,
    ⟨some 22, .move (.t 101), none, []⟩] .seq)
  (.seq (.region [⟨some 103, .move (.t 12), none, []⟩,
    ⟨some 104, .callF 10 [(.t 103), (.c (.int .i64 25))], none, []⟩,
    ⟨some 102, .move (.t 104), none, []⟩,
    ⟨some 105, .extract (.t 102) 0, none, []⟩,
    ⟨some 106, .extract (.t 102) 1, none, []⟩,
    ⟨some 23, .move (.t 105), none, []⟩,
    ⟨some 24, .move (.t 106), none, []⟩] .seq)
  (.seq (.region [⟨some 107, .move (.t 12), none, []⟩,
    ⟨some 108, .callF 17 [(.t 107), (.c (.int .i64 (-1)))], none, []⟩,
    ⟨some 25, .move (.t 108), none, []⟩] .seq)
  (.seq (.region [⟨some 109, .callF 18 [], none, []⟩,
    ⟨some 110, .move (.t 109), none, []⟩,
    ⟨some 111, .callF 12 [(.c .ptr0), (.c (.int .i64 0))], some (110, true), []⟩,
    ⟨some 112, .isNil .p false (.t 111) (.c .ptr0), some (110, true), []⟩,
    ⟨some 113, .pick (.t 110) (.t 112) (.c (.bool false)), none, []⟩,
    ⟨some 114, .move (.t 113), none, []⟩,
    ⟨some 115, .move (.t 7), some (114, true), []⟩,
    ⟨some 116, .callF 12 [(.t 115), (.c (.int .i64 0))], some (114, true), []⟩,
    ⟨some 117, .isNil .p false (.t 116) (.c .ptr0), some (114, true), []⟩,
    ⟨some 118, .pick (.t 114) (.t 117) (.c (.bool false)), none, []⟩,
    ⟨some 119, .move (.t 118), none, []⟩,
    ⟨some 120, .move (.t 7), some (119, true), []⟩,
    ⟨some 121, .callF 12 [(.t 120), (.c (.int .i64 2))], some (119, true), []⟩,
    ⟨some 122, .isNil .p false (.t 121) (.c .ptr0), some (119, true), []⟩,
    ⟨some 123, .pick (.t 119) (.t 122) (.c (.bool false)), none, []⟩,
    ⟨some 124, .move (.t 123), none, []⟩,
    ⟨some 125, .move (.t 7), some (124, true), []⟩,
    ⟨some 126, .callF 12 [(.t 125), (.c (.int .i64 (-1)))], some (124, true), []⟩,
    ⟨some 127, .isNil .p false (.t 126) (.c .ptr0), some (124, true), []⟩,
    ⟨some 128, .pick (.t 124) (.t 127) (.c (.bool false)), none, []⟩,
    ⟨some 129, .move (.t 128), none, []⟩,
    ⟨some 130, .move (.t 1), some (129, true), []⟩,
    ⟨some 131, .build [(.int .u32 0), (.int .i64 0), (.int .i64 0), (.int .u8 0), (.bool false), (.bool false)] [(4, 1, (.c (.bool true)))], some (129, true), []⟩,
    ⟨some 132, .callF 13 [(.t 130), (.t 131)], some (129, true), []⟩,
    ⟨some 133, .len .sl (.t 132), some (129, true), []⟩,
    ⟨some 134, .bin .eql (.t 133) (.c (.int .i64 0)), some (129, true), []⟩,
    ⟨some 135, .pick (.t 129) (.t 134) (.c (.bool false)), none, []⟩,
    ⟨some 136, .move (.t 135), none, []⟩,
    ⟨some 137, .move (.t 1), some (136, true), []⟩,
    ⟨some 138, .build [(.int .i64 0), (.int .u32 0), (.int .i64 0), (.int .i64 0), (.int .u8 0), (.int .i64 0), (.int .i64 0), (.int .u64 0), (.int .i64 0), (.int .i64 0)] [], some (136, true), []⟩,
    ⟨some 139, .callF 14 [(.t 137), (.t 138), (.c (.int .i64 0))], some (136, true), []⟩,
    ⟨some 140, .len .sl (.t 139), some (136, true), []⟩,
    ⟨some 141, .bin .eql (.t 140) (.c (.int .i64 0)), some (136, true), []⟩,
    ⟨some 142, .pick (.t 136) (.t 141) (.c (.bool false)), none, []⟩,
    ⟨some 143, .move (.t 142), none, []⟩,
    ⟨some 144, .move (.t 4), some (143, true), []⟩,
    ⟨some 145, .un .not (.t 144), some (143, true), []⟩,
    ⟨some 146, .pick (.t 143) (.t 145) (.c (.bool false)), none, []⟩,
    ⟨some 147, .move (.t 146), none, []⟩,
    ⟨some 148, .move (.t 6), some (147, true), []⟩,
    ⟨some 149, .un .not (.t 148), some (147, true), []⟩,
    ⟨some 150, .pick (.t 147) (.t 149) (.c (.bool false)), none, []⟩,
    ⟨some 151, .move (.t 150), none, []⟩,
    ⟨some 152, .move (.t 1), some (151, true), []⟩,
    ⟨some 153, .callF 17 [(.t 152), (.c (.int .i64 2))], some (151, true), []⟩,
    ⟨some 154, .len .sl (.t 153), some (151, true), []⟩,
    ⟨some 155, .bin .eql (.t 154) (.c (.int .i64 0)), some (151, true), []⟩,
    ⟨some 156, .pick (.t 151) (.t 155) (.c (.bool false)), none, []⟩,
    ⟨some 157, .move (.t 156), none, []⟩,
    ⟨some 158, .move (.t 1), some (157, true), []⟩,
    ⟨some 159, .callF 16 [(.t 158)], some (157, true), []⟩,
    ⟨some 160, .len .sl (.t 159), some (157, true), []⟩,
    ⟨some 161, .bin .eql (.t 160) (.c (.int .i64 0)), some (157, true), []⟩,
    ⟨some 162, .pick (.t 157) (.t 161) (.c (.bool false)), none, []⟩,
    ⟨some 163, .move (.t 162), none, []⟩,
    ⟨some 164, .move (.t 1), some (163, true), []⟩,
    ⟨some 165, .callF 15 [(.t 164)], some (163, true), []⟩,
    ⟨some 166, .bin .eql (.t 165) (.c (.int .i64 0)), some (163, true), []⟩,
    ⟨some 167, .pick (.t 163) (.t 166) (.c (.bool false)), none, []⟩,
    ⟨some 168, .move (.t 167), none, []⟩,
    ⟨some 169, .move (.t 1), some (168, true), []⟩,
    ⟨some 170, .callF 19 [(.t 169)], some (168, true), []⟩,
    ⟨some 171, .isNil .p false (.t 170) (.c .ptr0), some (168, true), []⟩,
    ⟨some 172, .pick (.t 168) (.t 171) (.c (.bool false)), none, []⟩,
    ⟨some 173, .move (.t 172), none, []⟩,
    ⟨some 174, .move (.t 13), some (173, true), []⟩,
    ⟨some 175, .build [(.int .u32 0), (.int .i64 0), (.int .i64 0), (.int .u8 0), (.bool false), (.bool false)] [(0, 1, (.c (.int .u32 1))), (1, 1, (.c (.int .i64 15))), (2, 1, (.c (.int .i64 7)))], some (173, true), []⟩,
    ⟨some 176, .callF 20 [(.t 174), (.t 175)], some (173, true), []⟩,
    ⟨some 177, .pick (.t 173) (.t 176) (.c (.bool false)), none, []⟩,
    ⟨some 178, .move (.t 177), none, []⟩,
    ⟨some 179, .move (.t 14), some (178, true), []⟩,
    ⟨some 180, .len .sl (.t 179), some (178, true), []⟩,
    ⟨some 181, .bin .eql (.t 180) (.c (.int .i64 0)), some (178, true), []⟩,
    ⟨some 182, .pick (.t 178) (.t 181) (.c (.bool false)), none, []⟩,
    ⟨some 183, .move (.t 182), none, []⟩,
    ⟨some 184, .move (.t 15), some (183, true), []⟩,
    ⟨some 185, .len .sl (.t 184), some (183, true), []⟩,
    ⟨some 186, .bin .eql (.t 185) (.c (.int .i64 0)), some (183, true), []⟩,
    ⟨some 187, .pick (.t 183) (.t 186) (.c (.bool false)), none, []⟩,
    ⟨some 188, .move (.t 187), none, []⟩,
    ⟨some 189, .move (.t 16), some (188, true), []⟩,
    ⟨some 190, .build [(.int .u32 0), (.int .i64 0), (.int .i64 0), (.int .u8 0), (.bool false), (.bool false)] [(0, 1, (.c (.int .u32 1))), (1, 1, (.c (.int .i64 16))), (2, 1, (.c (.int .i64 10)))], some (188, true), []⟩,
    ⟨some 191, .callF 20 [(.t 189), (.t 190)], some (188, true), []⟩,
    ⟨some 192, .pick (.t 188) (.t 191) (.c (.bool false)), none, []⟩,
    ⟨some 193, .move (.t 192), none, []⟩,
    ⟨some 194, .move (.t 17), some (193, true), []⟩,
    ⟨some 195, .build [(.int .u32 0), (.int .i64 0), (.int .i64 0), (.int .u8 0), (.bool false), (.bool false)] [(4, 1, (.c (.bool true))), (1, 1, (.c (.int .i64 1)))], some (193, true), []⟩,
    ⟨some 196, .callF 20 [(.t 194), (.t 195)], some (193, true), []⟩,
    ⟨some 197, .pick (.t 193) (.t 196) (.c (.bool false)), none, []⟩,
    ⟨some 198, .move (.t 197), none, []⟩,
    ⟨some 199, .move (.t 18), some (198, true), []⟩,
    ⟨some 200, .len .sl (.t 199), some (198, true), []⟩,
    ⟨some 201, .bin .eql (.t 200) (.c (.int .i64 0)), some (198, true), []⟩,
    ⟨some 202, .pick (.t 198) (.t 201) (.c (.bool false)), none, []⟩,
    ⟨some 203, .move (.t 202), none, []⟩,
    ⟨some 204, .move (.t 19), some (203, true), []⟩,
    ⟨some 205, .pick (.t 203) (.t 204) (.c (.bool false)), none, []⟩,
    ⟨some 206, .move (.t 205), none, []⟩,
    ⟨some 207, .move (.t 20), some (206, true), []⟩,
    ⟨some 208, .bin .eql (.t 207) (.c (.int .i64 4)), some (206, true), []⟩,
    ⟨some 209, .pick (.t 206) (.t 208) (.c (.bool false)), none, []⟩,
    ⟨some 210, .move (.t 209), none, []⟩,
    ⟨some 211, .move (.t 21), some (210, true), []⟩,
    ⟨some 212, .bin .eql (.t 211) (.c (.int .i64 3)), some (210, true), []⟩,
    ⟨some 213, .pick (.t 210) (.t 212) (.c (.bool false)), none, []⟩,
    ⟨some 214, .move (.t 213), none, []⟩,
    ⟨some 215, .move (.t 22), some (214, true), []⟩,
    ⟨some 216, .len .sl (.t 215), some (214, true), []⟩,
    ⟨some 217, .bin .eql (.t 216) (.c (.int .i64 1)), some (214, true), []⟩,
    ⟨some 218, .pick (.t 214) (.t 217) (.c (.bool false)), none, []⟩,
    ⟨some 219, .move (.t 218), none, []⟩,
    ⟨some 220, .move (.t 22), some (219, true), []⟩,
    ⟨some 221, .indexAddrS 10 (.t 220) (.c (.int .i64 0)), some (219, true), []⟩,
    ⟨some 222, .fieldAddr 2 (.t 221), some (219, true), []⟩,
    ⟨some 223, .load1 (.t 222), some (219, true), []⟩,
    ⟨some 224, .bin .eql (.t 223) (.c (.int .i64 10)), some (219, true), []⟩,
    ⟨some 225, .pick (.t 219) (.t 224) (.c (.bool false)), none, []⟩,
    ⟨some 226, .move (.t 225), none, []⟩,
    ⟨some 227, .move (.t 22), some (226, true), []⟩,
    ⟨some 228, .indexAddrS 10 (.t 227) (.c (.int .i64 0)), some (226, true), []⟩,
    ⟨some 229, .fieldAddr 3 (.t 228), some (226, true), []⟩,
    ⟨some 230, .load1 (.t 229), some (226, true), []⟩,
    ⟨some 231, .bin .eql (.t 230) (.c (.int .i64 25)), some (226, true), []⟩,
    ⟨some 232, .pick (.t 226) (.t 231) (.c (.bool false)), none, []⟩,
    ⟨some 233, .move (.t 232), none, []⟩,
    ⟨some 234, .move (.t 24), some (233, true), []⟩,
    ⟨some 235, .pick (.t 233) (.t 234) (.c (.bool false)), none, []⟩,
    ⟨some 236, .move (.t 235), none, []⟩,
    ⟨some 237, .move (.t 23), some (236, true), []⟩,
    ⟨some 238, .build [(.int .u32 0), (.int .i64 0), (.int .i64 0), (.int .u8 0), (.bool false), (.bool false)] [(1, 1, (.c (.int .i64 24))), (4, 1, (.c (.bool true)))], some (236, true), []⟩,
    ⟨some 239, .callF 20 [(.t 237), (.t 238)], some (236, true), []⟩,
    ⟨some 240, .pick (.t 236) (.t 239) (.c (.bool false)), none, []⟩,
    ⟨some 241, .move (.t 240), none, []⟩,
    ⟨some 242, .move (.t 25), some (241, true), []⟩,
    ⟨some 243, .len .sl (.t 242), some (241, true), []⟩,
    ⟨some 244, .bin .eql (.t 243) (.c (.int .i64 0)), some (241, true), []⟩,
    ⟨some 245, .pick (.t 241) (.t 244) (.c (.bool false)), none, []⟩,
    ⟨some 246, .move (.t 245), none, []⟩,
    ⟨some 247, .move (.t 12), some (246, true), []⟩,
    ⟨some 248, .callF 15 [(.t 247)], some (246, true), []⟩,
    ⟨some 249, .bin .eql (.t 248) (.c (.int .i64 0)), some (246, true), []⟩,
    ⟨some 250, .pick (.t 246) (.t 249) (.c (.bool false)), none, []⟩,
    ⟨some 251, .move (.t 250), none, []⟩,
    ⟨some 252, .move (.t 12), some (251, true), []⟩,
    ⟨some 253, .build [(.int .i64 0), (.int .u32 0), (.int .i64 0), (.int .i64 0), (.int .u8 0), (.int .i64 0), (.int .i64 0), (.int .u64 0), (.int .i64 0), (.int .i64 0)] [(0, 1, (.c (.int .i64 1)))], some (251, true), []⟩,
    ⟨some 254, .callF 14 [(.t 252), (.t 253), (.c (.int .i64 0))], some (251, true), []⟩,
    ⟨some 255, .len .sl (.t 254), some (251, true), []⟩,
    ⟨some 256, .bin .eql (.t 255) (.c (.int .i64 0)), some (251, true), []⟩,
    ⟨some 257, .pick (.t 251) (.t 256) (.c (.bool false)), none, []⟩,
    ⟨some 258, .move (.t 257), none, []⟩,
    ⟨some 259, .move (.t 12), some (258, true), []⟩,
    ⟨some 260, .callF 15 [(.t 259)], some (258, true), []⟩,
    ⟨some 261, .bin .eql (.t 260) (.c (.int .i64 0)), some (258, true), []⟩,
    ⟨some 262, .pick (.t 258) (.t 261) (.c (.bool false)), none, []⟩,
    ⟨some 0, .move (.t 262), none, []⟩] .seq)
  .ret))))))))))))))))))))))))))⟩
/-- (*anabranch/part.Part).Due -/
def BF9 : AFunc := ⟨61, [.cellN 4 10, .tmp 5, .tmp 6], (.seq (.region [⟨some 4, .alloc 28 [(.int .i64 0), (.int .u32 0), (.int .i64 0), (.int .i64 0), (.int .u8 0), (.int .i64 0), (.int .i64 0), (.int .u64 0), (.int .i64 0), (.int .i64 0)], none, []⟩,
    ⟨some 5, .move (.c (.int .i64 0)), none, []⟩,
    ⟨some 6, .move (.c (.bool false)), none, []⟩] .seq)
  (.seq (.seq (.region [⟨some 13, .move (.t 0), none, []⟩,
    ⟨some 14, .isNil .p false (.t 13) (.c .ptr0), none, []⟩] .seq)
  (.cond (.t 14) (.seq (.region [⟨some 15, .loadN 10 (.t 4), none, []⟩,
    ⟨none, .store 10 (.t 4) (.t 15), none, []⟩,
    ⟨some 5, .move (.c (.int .i64 0)), none, []⟩,
    ⟨some 6, .move (.c (.bool false)), none, []⟩] .seq)
  .ret)
  .skip))
  (.seq (.seq (.region [⟨some 16, .move (.t 0), none, []⟩,
    ⟨some 17, .nilCheck (.t 16), none, []⟩,
    ⟨some 18, .fieldAddr 3 (.t 17), none, []⟩,
    ⟨some 19, .load1 (.t 18), none, []⟩,
    ⟨some 20, .range (.t 19), none, []⟩] .seq)
  (.block 0 (.loop (.seq (.region [⟨some 21, .next (.t 20), none, []⟩,
    ⟨some 22, .extract (.t 21) 0, none, []⟩] .seq)
  (.seq (.cond (.t 22) .skip
  (.exit 0))
  (.block 1 (.seq (.region [⟨some 23, .entry (.t 20), none, []⟩,
    ⟨some 24, .extract (.t 23) 1, none, []⟩,
    ⟨some 8, .move (.t 24), none, []⟩] .seq)
  (.seq (.region [⟨some 25, .move (.t 8), none, []⟩,
    ⟨some 26, .len .sl (.t 25), none, []⟩,
    ⟨some 27, .move (.c (.int .i64 0)), none, []⟩] .seq)
  (.block 2 (.loop (.seq (.region [⟨some 28, .bin .lss (.t 27) (.t 26), none, []⟩] .seq)
  (.seq (.cond (.t 28) .skip
  (.exit 2))
  (.seq (.block 3 (.seq (.region [⟨some 29, .indexAddrS 10 (.t 25) (.t 27), none, []⟩,
    ⟨some 30, .loadN 10 (.t 29), none, []⟩,
    ⟨some 10, .alloc 28 [(.int .i64 0), (.int .u32 0), (.int .i64 0), (.int .i64 0), (.int .u8 0), (.int .i64 0), (.int .i64 0), (.int .u64 0), (.int .i64 0), (.int .i64 0)], none, []⟩,
    ⟨none, .store 10 (.t 10) (.t 30), none, []⟩] .seq)
  (.seq (.region [⟨some 32, .move (.t 0), none, []⟩,
    ⟨some 33, .loadN 10 (.t 10), none, []⟩,
    ⟨some 34, .callF 39 [(.t 32), (.t 33)], none, []⟩,
    ⟨some 31, .move (.t 34), none, []⟩,
    ⟨some 35, .extract (.t 31) 0, none, []⟩,
    ⟨some 36, .extract (.t 31) 1, none, []⟩,
    ⟨some 11, .move (.t 35), none, []⟩,
    ⟨some 12, .move (.t 36), none, []⟩] .seq)
  (.seq (.region [⟨some 37, .move (.t 11), none, []⟩,
    ⟨some 38, .move (.t 1), none, []⟩,
    ⟨some 39, .bin .leq (.t 37) (.t 38), none, []⟩,
    ⟨some 40, .move (.t 39), none, []⟩,
    ⟨some 41, .move (.t 6), some (40, true), []⟩,
    ⟨some 42, .un .not (.t 41), some (40, true), []⟩,
    ⟨some 43, .move (.t 42), some (40, true), []⟩,
    ⟨some 44, .move (.t 11), some (43, false), []⟩,
    ⟨some 45, .move (.t 5), some (43, false), []⟩,
    ⟨some 46, .callF 41 [(.t 44), (.t 45)], some (43, false), []⟩,
    ⟨some 47, .loadN 10 (.t 10), some (43, false), [9, 12]⟩,
    ⟨some 48, .loadN 10 (.t 4), some (43, false), [9, 12]⟩,
    ⟨some 49, .callF 42 [(.t 47), (.t 48)], some (43, false), []⟩,
    ⟨some 50, .buildSlice 3 2 1 [(.int .i64 0), (.int .i64 0)] [(0, 1, (.t 46)), (1, 1, (.t 49))], some (43, false), []⟩,
    ⟨some 51, .callF 40 [(.t 50)], some (43, false), []⟩,
    ⟨some 52, .bin .lss (.t 51) (.c (.int .i64 0)), some (43, false), []⟩,
    ⟨some 53, .pick (.t 43) (.c (.bool true)) (.t 52), some (40, true), []⟩,
    ⟨some 54, .pick (.t 40) (.t 53) (.c (.bool false)), none, []⟩] .sink)
  (.cond (.t 54) (.region [⟨some 55, .loadN 10 (.t 10), none, []⟩,
    ⟨some 56, .move (.t 11), none, []⟩,
    ⟨none, .store 10 (.t 4) (.t 55), none, []⟩,
    ⟨some 5, .move (.t 56), none, []⟩,
    ⟨some 6, .move (.c (.bool true)), none, []⟩] .seq)
  .skip)))))
  (.region [⟨some 57, .bin .add (.t 27) (.c (.int .i64 1)), none, []⟩,
    ⟨some 27, .move (.t 57), none, []⟩] .seq))))))))))))))
  (.seq (.region [⟨some 58, .loadN 10 (.t 4), none, []⟩,
    ⟨some 59, .move (.t 5), none, []⟩,
    ⟨some 60, .move (.t 6), none, []⟩,
    ⟨none, .store 10 (.t 4) (.t 58), none, []⟩,
    ⟨some 5, .move (.t 59), none, []⟩,
    ⟨some 6, .move (.t 60), none, []⟩] .seq)
  .ret))))⟩
/-- (*anabranch/part.Part).Fire -/
def BF10 : AFunc := ⟨90, [.tmp 4, .tmp 5], (.seq (.region [⟨some 4, .move (.c .sl0), none, []⟩,
    ⟨some 5, .move (.c (.bool false)), none, []⟩] .seq)
  (.seq (.region [⟨some 16, .move (.t 0), none, []⟩,
    ⟨some 17, .move (.t 1), none, []⟩,
    ⟨some 18, .callF 9 [(.t 16), (.t 17)], none, []⟩,
    ⟨some 15, .move (.t 18), none, []⟩,
    ⟨some 19, .extract (.t 15) 0, none, []⟩,
    ⟨some 20, .extract (.t 15) 1, none, []⟩,
    ⟨some 21, .extract (.t 15) 2, none, []⟩,
    ⟨some 6, .alloc 28 [(.int .i64 0), (.int .u32 0), (.int .i64 0), (.int .i64 0), (.int .u8 0), (.int .i64 0), (.int .i64 0), (.int .u64 0), (.int .i64 0), (.int .i64 0)], none, []⟩,
    ⟨none, .store 10 (.t 6) (.t 19), none, []⟩,
    ⟨some 7, .move (.t 20), none, []⟩,
    ⟨some 8, .move (.t 21), none, []⟩] .seq)
  (.seq (.seq (.region [⟨some 22, .move (.t 8), none, []⟩,
    ⟨some 23, .un .not (.t 22), none, []⟩] .seq)
  (.cond (.t 23) (.seq (.region [⟨some 4, .move (.c .sl0), none, []⟩,
    ⟨some 5, .move (.c (.bool false)), none, []⟩] .seq)
  .ret)
  .skip))
  (.seq (.region [⟨some 25, .move (.t 0), none, []⟩,
    ⟨some 26, .loadN 10 (.t 6), none, []⟩,
    ⟨some 27, .callF 39 [(.t 25), (.t 26)], none, []⟩,
    ⟨some 24, .move (.t 27), none, []⟩,
    ⟨some 28, .extract (.t 24) 0, none, []⟩,
    ⟨some 29, .extract (.t 24) 1, none, []⟩,
    ⟨some 9, .move (.t 28), none, []⟩,
    ⟨some 10, .move (.t 29), none, []⟩] .seq)
  (.seq (.region [⟨some 30, .move (.t 0), none, []⟩,
    ⟨some 31, .loadN 10 (.t 6), none, []⟩,
    ⟨some 32, .callF 43 [(.t 30), (.t 31)], none, []⟩] .seq)
  (.seq (.block 0 (.seq (.region [⟨some 34, .move (.t 0), none, []⟩,
    ⟨some 35, .nilCheck (.t 34), none, []⟩,
    ⟨some 36, .fieldAddr 2 (.t 35), none, []⟩,
    ⟨some 37, .load1 (.t 36), none, []⟩,
    ⟨some 38, .bin .eql (.t 37) (.c (.int .i64 2)), none, []⟩,
    ⟨some 33, .move (.t 38), none, []⟩] .seq)
  (.cond (.t 33) (.seq (.region [⟨some 4, .move (.c .sl0), none, []⟩,
    ⟨some 5, .move (.c (.bool true)), none, []⟩] .seq)
  .ret)
  (.seq (.region [⟨some 40, .move (.t 10), none, []⟩,
    ⟨some 41, .isNil .p true (.t 40) (.c .ptr0), none, []⟩,
    ⟨some 42, .move (.t 41), none, []⟩,
    ⟨some 43, .move (.t 10), some (42, true), []⟩,
    ⟨some 44, .nilCheck (.t 43), some (42, true), []⟩,
    ⟨some 45, .fieldAddr 9 (.t 44), some (42, true), []⟩,
    ⟨some 46, .load1 (.t 45), some (42, true), []⟩,
    ⟨some 47, .bin .eql (.t 46) (.c (.int .i64 2)), some (42, true), []⟩,
    ⟨some 48, .pick (.t 42) (.t 47) (.c (.bool false)), none, []⟩,
    ⟨some 39, .move (.t 48), none, []⟩] .seq)
  (.cond (.t 39) (.seq (.region [⟨some 49, .move (.t 0), none, []⟩,
    ⟨some 50, .fieldAddr 0 (.t 6), none, []⟩,
    ⟨some 51, .load1 (.t 50), none, []⟩,
    ⟨some 52, .bin .add (.t 51) (.c (.int .i64 1)), none, []⟩,
    ⟨some 53, .fieldAddr 1 (.t 6), none, []⟩,
    ⟨some 54, .load1 (.t 53), none, []⟩,
    ⟨some 55, .move (.t 7), none, []⟩,
    ⟨some 56, .fieldAddr 5 (.t 6), none, []⟩,
    ⟨some 57, .loadN 5 (.t 56), none, []⟩,
    ⟨some 58, .callF 44 [(.t 49), (.t 52), (.t 54), (.t 55), (.t 57)], none, []⟩] .seq)
  (.seq (.region [⟨some 4, .move (.c .sl0), none, []⟩,
    ⟨some 5, .move (.c (.bool true)), none, []⟩] .seq)
  .ret))
  .skip)))))
  (.seq (.region [⟨some 60, .move (.t 0), none, []⟩,
    ⟨some 61, .nilCheck (.t 60), none, []⟩,
    ⟨some 62, .fieldAddr 0 (.t 61), none, []⟩,
    ⟨some 63, .load1 (.t 62), none, [10]⟩,
    ⟨some 64, .move (.t 0), none, []⟩,
    ⟨some 65, .nilCheck (.t 64), none, []⟩,
    ⟨some 66, .fieldAddr 1 (.t 65), none, []⟩,
    ⟨some 67, .load1 (.t 66), none, [10]⟩,
    ⟨some 68, .fieldAddr 0 (.t 6), none, []⟩,
    ⟨some 69, .load1 (.t 68), none, [10]⟩,
    ⟨some 70, .callF 45 [(.t 63), (.t 67), (.t 69)], none, []⟩,
    ⟨some 59, .move (.t 70), none, []⟩,
    ⟨some 71, .extract (.t 59) 0, none, []⟩,
    ⟨some 72, .extract (.t 59) 1, none, []⟩,
    ⟨some 11, .alloc 84 [(.int .i64 0), (.int .i64 0), (.int .i64 0), (.int .i64 0)], none, []⟩,
    ⟨none, .store 4 (.t 11) (.t 71), none, []⟩,
    ⟨some 12, .move (.t 72), none, []⟩] .sink)
  (.seq (.region [⟨some 74, .fieldAddr 5 (.t 6), none, []⟩,
    ⟨some 75, .loadN 5 (.t 74), none, []⟩,
    ⟨some 76, .fieldAddr 3 (.t 11), none, []⟩,
    ⟨some 77, .load1 (.t 76), none, []⟩,
    ⟨some 78, .callF 46 [(.t 75), (.t 77)], none, []⟩,
    ⟨some 73, .move (.t 78), none, []⟩,
    ⟨some 79, .extract (.t 73) 0, none, []⟩,
    ⟨some 80, .extract (.t 73) 1, none, []⟩,
    ⟨some 13, .move (.t 79), none, []⟩,
    ⟨some 14, .move (.t 80), none, []⟩] .seq)
  (.seq (.region [⟨some 81, .fieldAddr 1 (.t 6), none, []⟩,
    ⟨some 82, .load1 (.t 81), none, []⟩,
    ⟨some 83, .move (.t 7), none, []⟩,
    ⟨some 84, .bin .sub (.t 83) (.c (.int .i64 1)), none, []⟩,
    ⟨some 85, .move (.t 13), none, []⟩,
    ⟨some 86, .move (.t 14), none, []⟩,
    ⟨some 87, .un .not (.t 86), none, []⟩,
    ⟨some 88, .build [(.int .u32 0), (.int .i64 0), (.int .i64 0), (.int .u8 0), (.bool false), (.bool false)] [(0, 1, (.t 82)), (1, 1, (.t 84)), (2, 1, (.t 85)), (4, 1, (.t 87))], none, []⟩,
    ⟨some 89, .buildSlice 43 1 6 [(.int .u32 0), (.int .i64 0), (.int .i64 0), (.int .u8 0), (.bool false), (.bool false)] [(0, 6, (.t 88))], none, []⟩,
    ⟨some 4, .move (.t 89), none, []⟩,
    ⟨some 5, .move (.c (.bool true)), none, []⟩] .seq)
  .ret)))))))))⟩
/-- (anabranch/anabranchlaw11.Setup).tables -/
def BF11 : AFunc := ⟨32, [.tmp 2, .tmp 3], (.seq (.region [⟨some 1, .box 38 (.t 0), none, []⟩,
    ⟨some 2, .move (.c .ptr0), none, []⟩,
    ⟨some 3, .move (.c .ptr0), none, []⟩] .seq)
  (.seq (.region [⟨some 10, .build [(.int .i64 0), (.int .i64 0), (.int .i64 0), (.int .i64 0)] [(0, 1, (.c (.int .i64 0))), (1, 1, (.c (.int .i64 1)))], none, []⟩,
    ⟨some 11, .buildSlice 84 1 4 [(.int .i64 0), (.int .i64 0), (.int .i64 0), (.int .i64 0)] [(0, 4, (.t 10))], none, []⟩,
    ⟨some 12, .loadN 4 (.t 1), none, []⟩,
    ⟨some 13, .callF 47 [(.t 12)], none, []⟩,
    ⟨some 14, .build [(.int .i64 0), (.int .i64 0), (.int .i64 0), (.int .i64 0), .sl0] [(0, 4, (.t 13))], none, []⟩,
    ⟨some 15, .buildSlice 95 1 5 [(.int .i64 0), (.int .i64 0), (.int .i64 0), (.int .i64 0), .sl0] [(0, 5, (.t 14))], none, []⟩,
    ⟨some 16, .build [.sl0, .sl0, (.int .i64 0), (.int .i64 0)] [(0, 1, (.t 11)), (1, 1, (.t 15)), (3, 1, (.c (.int .i64 10)))], none, []⟩,
    ⟨some 4, .alloc 55 [.sl0, .sl0, (.int .i64 0), (.int .i64 0)], none, []⟩,
    ⟨none, .store 4 (.t 4) (.t 16), none, []⟩] .seq)
  (.seq (.region [⟨some 17, .build [(.int .i64 0), (.int .i64 0), (.int .i64 0), (.int .i64 0), (.int .i64 0)] [(0, 1, (.c (.int .i64 1))), (1, 1, (.c (.int .i64 1))), (2, 1, (.c (.int .i64 1))), (3, 1, (.c (.int .i64 1))), (4, 1, (.c (.int .i64 4)))], none, []⟩,
    ⟨some 5, .alloc 57 [(.int .i64 0), (.int .i64 0), (.int .i64 0), (.int .i64 0), (.int .i64 0)], none, []⟩,
    ⟨none, .store 5 (.t 5) (.t 17), none, []⟩] .seq)
  (.seq (.region [⟨some 19, .loadN 4 (.t 4), none, []⟩,
    ⟨some 20, .loadN 5 (.t 5), none, []⟩,
    ⟨some 21, .callF 48 [(.t 19), (.t 20)], none, []⟩,
    ⟨some 18, .move (.t 21), none, []⟩,
    ⟨some 22, .extract (.t 18) 0, none, []⟩,
    ⟨some 23, .extract (.t 18) 1, none, []⟩,
    ⟨some 6, .move (.t 22), none, []⟩,
    ⟨some 7, .move (.t 23), none, []⟩] .seq)
  (.seq (.region [⟨some 25, .loadN 4 (.t 4), none, []⟩,
    ⟨some 26, .loadN 5 (.t 5), none, []⟩,
    ⟨some 27, .callF 22 [(.t 25), (.t 26)], none, []⟩,
    ⟨some 24, .move (.t 27), none, []⟩,
    ⟨some 28, .extract (.t 24) 0, none, []⟩,
    ⟨some 29, .extract (.t 24) 1, none, []⟩,
    ⟨some 8, .move (.t 28), none, []⟩,
    ⟨some 9, .move (.t 29), none, []⟩] .seq)
  (.seq (.region [⟨some 30, .move (.t 6), none, []⟩,
    ⟨some 31, .move (.t 8), none, []⟩,
    ⟨some 2, .move (.t 30), none, []⟩,
    ⟨some 3, .move (.t 31), none, []⟩] .seq)
  .ret))))))⟩
/-- anabranch/part.New -/
def BF12 : AFunc := ⟨27, [.tmp 4], (.seq (.region [⟨some 4, .move (.c .ptr0), none, []⟩] .seq)
  (.seq (.region [⟨some 9, .move (.t 0), none, []⟩,
    ⟨some 10, .move (.t 1), none, []⟩,
    ⟨some 11, .callF 45 [(.t 9), (.t 10), (.c (.int .i64 0))], none, []⟩,
    ⟨some 8, .move (.t 11), none, []⟩,
    ⟨some 12, .extract (.t 8) 0, none, []⟩,
    ⟨some 13, .extract (.t 8) 1, none, []⟩,
    ⟨some 5, .alloc 84 [(.int .i64 0), (.int .i64 0), (.int .i64 0), (.int .i64 0)], none, []⟩,
    ⟨none, .store 4 (.t 5) (.t 12), none, []⟩,
    ⟨some 6, .move (.t 13), none, []⟩] .seq)
  (.seq (.seq (.region [⟨some 14, .loadN 4 (.t 5), none, []⟩,
    ⟨some 15, .callF 49 [(.t 14)], none, []⟩,
    ⟨some 7, .move (.t 15), none, []⟩] .seq)
  (.seq (.region [⟨some 16, .move (.t 6), none, []⟩,
    ⟨some 17, .move (.t 16), none, []⟩,
    ⟨some 18, .move (.t 7), some (17, true), []⟩,
    ⟨some 19, .bin .neq (.t 18) (.c (.int .i64 0)), some (17, true), []⟩,
    ⟨some 20, .pick (.t 17) (.t 19) (.c (.bool false)), none, []⟩] .seq)
  (.cond (.t 20) (.seq (.region [⟨some 21, .move (.t 0), none, []⟩,
    ⟨some 22, .move (.t 1), none, []⟩,
    ⟨some 23, .move (.t 7), none, []⟩,
    ⟨some 24, .mkMap none, none, []⟩,
    ⟨some 25, .build [.ptr0, (.int .i64 0), (.int .i64 0), .map0, (.int .i64 0)] [(0, 1, (.t 21)), (1, 1, (.t 22)), (2, 1, (.t 23)), (3, 1, (.t 24)), (4, 1, (.c (.int .i64 0)))], none, []⟩,
    ⟨some 26, .box 105 (.t 25), none, []⟩,
    ⟨some 4, .move (.t 26), none, []⟩] .seq)
  .ret)
  .skip)))
  (.seq (.region [⟨some 4, .move (.c .ptr0), none, []⟩] .seq)
  .ret))))⟩
/-- (*anabranch/part.Part).Put -/
def BF13 : AFunc := ⟨79, [.tmp 4], (.seq (.region [⟨some 3, .box 43 (.t 1), none, []⟩,
    ⟨some 4, .move (.c .sl0), none, []⟩] .seq)
  (.seq (.block 0 (.seq (.region [⟨some 9, .move (.t 0), none, []⟩,
    ⟨some 10, .isNil .p false (.t 9) (.c .ptr0), none, []⟩,
    ⟨some 8, .move (.t 10), none, []⟩] .seq)
  (.cond (.t 8) (.seq (.region [⟨some 4, .move (.c .sl0), none, []⟩] .seq)
  .ret)
  (.seq (.region [⟨some 12, .fieldAddr 4 (.t 3), none, []⟩,
    ⟨some 13, .load1 (.t 12), none, []⟩,
    ⟨some 14, .move (.t 13), none, []⟩,
    ⟨some 15, .fieldAddr 5 (.t 3), some (14, false), []⟩,
    ⟨some 16, .load1 (.t 15), some (14, false), []⟩,
    ⟨some 17, .pick (.t 14) (.c (.bool true)) (.t 16), none, []⟩,
    ⟨some 11, .move (.t 17), none, []⟩] .seq)
  (.cond (.t 11) (.seq (.region [⟨some 18, .loadN 6 (.t 3), none, []⟩,
    ⟨some 19, .buildSlice 43 1 6 [(.int .u32 0), (.int .i64 0), (.int .i64 0), (.int .u8 0), (.bool false), (.bool false)] [(0, 6, (.t 18))], none, []⟩,
    ⟨some 4, .move (.t 19), none, []⟩] .seq)
  .ret)
  .skip)))))
  (.seq (.region [⟨some 20, .move (.t 0), none, []⟩,
    ⟨some 21, .nilCheck (.t 20), none, []⟩,
    ⟨some 22, .fieldAddr 0 (.t 21), none, []⟩,
    ⟨some 23, .load1 (.t 22), none, [10]⟩,
    ⟨some 24, .move (.t 0), none, []⟩,
    ⟨some 25, .nilCheck (.t 24), none, []⟩,
    ⟨some 26, .fieldAddr 1 (.t 25), none, []⟩,
    ⟨some 27, .load1 (.t 26), none, [10]⟩,
    ⟨some 28, .fieldAddr 1 (.t 3), none, []⟩,
    ⟨some 29, .load1 (.t 28), none, [10]⟩,
    ⟨some 30, .callF 50 [(.t 23), (.t 27), (.t 29)], none, []⟩,
    ⟨some 5, .move (.t 30), none, []⟩] .sink)
  (.seq (.seq (.region [⟨some 31, .move (.t 0), none, []⟩,
    ⟨some 32, .nilCheck (.t 31), none, []⟩,
    ⟨some 33, .fieldAddr 2 (.t 32), none, []⟩,
    ⟨some 34, .load1 (.t 33), none, []⟩,
    ⟨some 35, .bin .eql (.t 34) (.c (.int .i64 1)), none, []⟩] .seq)
  (.cond (.t 35) (.seq (.region [⟨some 36, .move (.t 0), none, []⟩,
    ⟨some 37, .move (.t 5), none, []⟩,
    ⟨some 38, .fieldAddr 0 (.t 3), none, []⟩,
    ⟨some 39, .load1 (.t 38), none, [8, 9]⟩,
    ⟨some 40, .fieldAddr 1 (.t 3), none, []⟩,
    ⟨some 41, .load1 (.t 40), none, [8, 9]⟩,
    ⟨some 42, .fieldAddr 2 (.t 3), none, []⟩,
    ⟨some 43, .load1 (.t 42), none, [8]⟩,
    ⟨some 44, .callF 51 [(.t 43)], none, []⟩,
    ⟨some 45, .callF 44 [(.t 36), (.t 37), (.t 39), (.t 41), (.t 44)], none, []⟩] .sink)
  (.seq (.region [⟨some 4, .move (.c .sl0), none, []⟩] .seq)
  .ret))
  .skip))
  (.seq (.region [⟨some 47, .move (.t 0), none, []⟩,
    ⟨some 48, .nilCheck (.t 47), none, []⟩,
    ⟨some 49, .fieldAddr 0 (.t 48), none, []⟩,
    ⟨some 50, .load1 (.t 49), none, [9]⟩,
    ⟨some 51, .move (.t 0), none, []⟩,
    ⟨some 52, .nilCheck (.t 51), none, []⟩,
    ⟨some 53, .fieldAddr 1 (.t 52), none, []⟩,
    ⟨some 54, .load1 (.t 53), none, [9]⟩,
    ⟨some 55, .move (.t 5), none, []⟩,
    ⟨some 56, .callF 45 [(.t 50), (.t 54), (.t 55)], none, []⟩,
    ⟨some 46, .move (.t 56), none, []⟩,
    ⟨some 57, .extract (.t 46) 0, none, []⟩,
    ⟨some 58, .extract (.t 46) 1, none, []⟩,
    ⟨some 6, .alloc 84 [(.int .i64 0), (.int .i64 0), (.int .i64 0), (.int .i64 0)], none, []⟩,
    ⟨none, .store 4 (.t 6) (.t 57), none, []⟩,
    ⟨some 7, .move (.t 58), none, []⟩] .sink)
  (.seq (.region [⟨some 59, .move (.t 0), none, []⟩,
    ⟨some 60, .move (.t 5), none, []⟩,
    ⟨some 61, .fieldAddr 0 (.t 3), none, []⟩,
    ⟨some 62, .load1 (.t 61), none, [17, 19]⟩,
    ⟨some 63, .fieldAddr 1 (.t 3), none, []⟩,
    ⟨some 64, .load1 (.t 63), none, [17, 19]⟩,
    ⟨some 65, .fieldAddr 1 (.t 3), none, []⟩,
    ⟨some 66, .load1 (.t 65), none, [17, 19]⟩,
    ⟨some 67, .fieldAddr 1 (.t 6), none, []⟩,
    ⟨some 68, .load1 (.t 67), none, [17, 19]⟩,
    ⟨some 69, .bin .add (.t 66) (.t 68), none, []⟩,
    ⟨some 70, .bin .add (.t 69) (.c (.int .i64 1)), none, []⟩,
    ⟨some 71, .fieldAddr 3 (.t 3), none, []⟩,
    ⟨some 72, .load1 (.t 71), none, [17, 19]⟩,
    ⟨some 73, .bin .and (.t 72) (.c (.int .u8 1)), none, []⟩,
    ⟨some 74, .fieldAddr 2 (.t 3), none, []⟩,
    ⟨some 75, .load1 (.t 74), none, [17]⟩,
    ⟨some 76, .callF 51 [(.t 75)], none, []⟩,
    ⟨some 77, .build [(.int .i64 0), (.int .u32 0), (.int .i64 0), (.int .i64 0), (.int .u8 0), (.int .i64 0), (.int .i64 0), (.int .u64 0), (.int .i64 0), (.int .i64 0)] [(0, 1, (.t 60)), (1, 1, (.t 62)), (2, 1, (.t 64)), (3, 1, (.t 70)), (4, 1, (.t 73)), (5, 5, (.t 76))], none, []⟩,
    ⟨some 78, .callF 52 [(.t 59), (.t 77), (.c (.int .i64 (-9223372036854775808)))], none, []⟩,
    ⟨some 4, .move (.t 78), none, []⟩] .sink)
  .ret))))))⟩
/-- (*anabranch/part.Part).Add -/
def BF14 : AFunc := ⟨40, [.tmp 6], (.seq (.region [⟨some 4, .box 28 (.t 1), none, []⟩,
    ⟨some 6, .move (.c .sl0), none, []⟩] .seq)
  (.seq (.seq (.region [⟨some 9, .move (.t 0), none, []⟩,
    ⟨some 10, .isNil .p false (.t 9) (.c .ptr0), none, []⟩] .seq)
  (.cond (.t 10) (.seq (.region [⟨some 6, .move (.c .sl0), none, []⟩] .seq)
  .ret)
  .skip))
  (.seq (.seq (.region [⟨some 12, .move (.t 0), none, []⟩,
    ⟨some 13, .nilCheck (.t 12), none, []⟩,
    ⟨some 14, .fieldAddr 0 (.t 13), none, []⟩,
    ⟨some 15, .load1 (.t 14), none, [10]⟩,
    ⟨some 16, .move (.t 0), none, []⟩,
    ⟨some 17, .nilCheck (.t 16), none, []⟩,
    ⟨some 18, .fieldAddr 1 (.t 17), none, []⟩,
    ⟨some 19, .load1 (.t 18), none, [10]⟩,
    ⟨some 20, .fieldAddr 0 (.t 4), none, []⟩,
    ⟨some 21, .load1 (.t 20), none, [10]⟩,
    ⟨some 22, .callF 45 [(.t 15), (.t 19), (.t 21)], none, []⟩,
    ⟨some 11, .move (.t 22), none, []⟩,
    ⟨some 23, .extract (.t 11) 0, none, []⟩,
    ⟨some 24, .extract (.t 11) 1, none, []⟩,
    ⟨some 7, .alloc 84 [(.int .i64 0), (.int .i64 0), (.int .i64 0), (.int .i64 0)], none, []⟩,
    ⟨none, .store 4 (.t 7) (.t 23), none, []⟩,
    ⟨some 8, .move (.t 24), none, []⟩] .sink)
  (.seq (.region [⟨some 25, .move (.t 8), none, []⟩,
    ⟨some 26, .un .not (.t 25), none, []⟩] .seq)
  (.cond (.t 26) (.seq (.region [⟨some 6, .move (.c .sl0), none, []⟩] .seq)
  .ret)
  .skip)))
  (.seq (.seq (.region [⟨some 27, .move (.t 0), none, []⟩,
    ⟨some 28, .nilCheck (.t 27), none, []⟩,
    ⟨some 29, .fieldAddr 2 (.t 28), none, []⟩,
    ⟨some 30, .load1 (.t 29), none, []⟩,
    ⟨some 31, .bin .eql (.t 30) (.c (.int .i64 1)), none, []⟩] .seq)
  (.cond (.t 31) (.seq (.region [⟨some 32, .fieldAddr 4 (.t 4), none, []⟩,
    ⟨none, .store 1 (.t 32) (.c (.int .u8 0)), none, []⟩] .seq)
  (.seq (.region [⟨some 33, .move (.t 0), none, []⟩,
    ⟨some 34, .loadN 10 (.t 4), none, []⟩,
    ⟨some 35, .callF 53 [(.t 33), (.t 34)], none, []⟩] .seq)
  (.seq (.region [⟨some 6, .move (.c .sl0), none, []⟩] .seq)
  .ret)))
  .skip))
  (.seq (.region [⟨some 36, .move (.t 0), none, []⟩,
    ⟨some 37, .loadN 10 (.t 4), none, []⟩,
    ⟨some 38, .move (.t 2), none, []⟩,
    ⟨some 39, .callF 52 [(.t 36), (.t 37), (.t 38)], none, []⟩,
    ⟨some 6, .move (.t 39), none, []⟩] .seq)
  .ret)))))⟩
/-- (*anabranch/part.Part).Len -/
def BF15 : AFunc := ⟨9, [.tmp 2], (.seq (.region [⟨some 2, .move (.c (.int .i64 0)), none, []⟩] .seq)
  (.seq (.seq (.region [⟨some 3, .move (.t 0), none, []⟩,
    ⟨some 4, .isNil .p false (.t 3) (.c .ptr0), none, []⟩] .seq)
  (.cond (.t 4) (.seq (.region [⟨some 2, .move (.c (.int .i64 0)), none, []⟩] .seq)
  .ret)
  .skip))
  (.seq (.region [⟨some 5, .move (.t 0), none, []⟩,
    ⟨some 6, .nilCheck (.t 5), none, []⟩,
    ⟨some 7, .fieldAddr 4 (.t 6), none, []⟩,
    ⟨some 8, .load1 (.t 7), none, []⟩,
    ⟨some 2, .move (.t 8), none, []⟩] .seq)
  .ret)))⟩
/-- (*anabranch/part.Part).Entries -/
def BF16 : AFunc := ⟨22, [.tmp 2], (.seq (.region [⟨some 2, .move (.c .sl0), none, []⟩] .seq)
  (.seq (.seq (.region [⟨some 5, .move (.t 0), none, []⟩,
    ⟨some 6, .isNil .p false (.t 5) (.c .ptr0), none, []⟩] .seq)
  (.cond (.t 6) (.seq (.region [⟨some 2, .move (.c .sl0), none, []⟩] .seq)
  .ret)
  .skip))
  (.seq (.seq (.region [⟨some 7, .move (.t 0), none, []⟩,
    ⟨some 8, .nilCheck (.t 7), none, []⟩,
    ⟨some 9, .fieldAddr 3 (.t 8), none, []⟩,
    ⟨some 10, .load1 (.t 9), none, []⟩,
    ⟨some 11, .range (.t 10), none, []⟩] .seq)
  (.block 0 (.loop (.seq (.region [⟨some 12, .next (.t 11), none, []⟩,
    ⟨some 13, .extract (.t 12) 0, none, []⟩] .seq)
  (.seq (.cond (.t 13) .skip
  (.exit 0))
  (.block 1 (.seq (.region [⟨some 14, .entry (.t 11), none, []⟩,
    ⟨some 15, .extract (.t 14) 1, none, []⟩,
    ⟨some 4, .move (.t 15), none, []⟩] .seq)
  (.region [⟨some 16, .move (.t 2), none, []⟩,
    ⟨some 17, .move (.t 4), none, []⟩,
    ⟨some 18, .append 28 10 80 [(.int .i64 0), (.int .u32 0), (.int .i64 0), (.int .i64 0), (.int .u8 0), (.int .i64 0), (.int .i64 0), (.int .u64 0), (.int .i64 0), (.int .i64 0)] (.t 16) (.t 17), none, []⟩,
    ⟨some 2, .move (.t 18), none, []⟩] .seq))))))))
  (.seq (.region [⟨some 19, .move (.t 2), none, []⟩,
    ⟨some 20, .callF 54 [(.t 19), (.c (.fn 42 [] []))], none, []⟩] .seq)
  (.seq (.region [⟨some 21, .move (.t 2), none, []⟩,
    ⟨some 2, .move (.t 21), none, []⟩] .seq)
  .ret)))))⟩
/-- (*anabranch/part.Part).Take -/
def BF17 : AFunc := ⟨28, [.tmp 4], (.seq (.region [⟨some 4, .move (.c .sl0), none, []⟩] .seq)
  (.seq (.region [⟨some 8, .move (.t 0), none, []⟩,
    ⟨some 9, .callF 16 [(.t 8)], none, []⟩,
    ⟨some 5, .move (.t 9), none, []⟩] .seq)
  (.seq (.region [⟨some 10, .move (.t 5), none, []⟩,
    ⟨some 11, .move (.t 1), none, []⟩,
    ⟨some 12, .move (.t 5), none, []⟩,
    ⟨some 13, .len .sl (.t 12), none, []⟩,
    ⟨some 14, .maxmin false [(.t 11), (.t 13)], none, []⟩,
    ⟨some 15, .maxmin true [(.c (.int .i64 0)), (.t 14)], none, []⟩,
    ⟨some 16, .slice 10 (.t 10) none (some (.t 15)) none, none, []⟩,
    ⟨some 5, .move (.t 16), none, []⟩] .seq)
  (.seq (.seq (.region [⟨some 17, .move (.t 5), none, []⟩,
    ⟨some 18, .len .sl (.t 17), none, []⟩,
    ⟨some 19, .move (.c (.int .i64 0)), none, []⟩] .seq)
  (.block 0 (.loop (.seq (.region [⟨some 20, .bin .lss (.t 19) (.t 18), none, []⟩] .seq)
  (.seq (.cond (.t 20) .skip
  (.exit 0))
  (.seq (.block 1 (.seq (.region [⟨some 21, .indexAddrS 10 (.t 17) (.t 19), none, []⟩,
    ⟨some 22, .loadN 10 (.t 21), none, []⟩,
    ⟨some 7, .alloc 28 [(.int .i64 0), (.int .u32 0), (.int .i64 0), (.int .i64 0), (.int .u8 0), (.int .i64 0), (.int .i64 0), (.int .u64 0), (.int .i64 0), (.int .i64 0)], none, []⟩,
    ⟨none, .store 10 (.t 7) (.t 22), none, []⟩] .seq)
  (.region [⟨some 23, .move (.t 0), none, []⟩,
    ⟨some 24, .loadN 10 (.t 7), none, []⟩,
    ⟨some 25, .callF 43 [(.t 23), (.t 24)], none, []⟩] .seq)))
  (.region [⟨some 26, .bin .add (.t 19) (.c (.int .i64 1)), none, []⟩,
    ⟨some 19, .move (.t 26), none, []⟩] .seq)))))))
  (.seq (.region [⟨some 27, .move (.t 5), none, []⟩,
    ⟨some 4, .move (.t 27), none, []⟩] .seq)
  .ret)))))⟩
/-- anabranch/anabranchlaw11.works -/
def BF18 : AFunc := ⟨202, [.tmp 0], (.seq (.region [⟨some 0, .move (.c (.bool false)), none, []⟩] .seq)
  (.seq (.region [⟨some 22, .build [(.int .i64 0), (.int .i64 0), (.int .i64 0), (.int .i64 0)] [(0, 1, (.c (.int .i64 4))), (1, 1, (.c (.int .i64 10))), (3, 1, (.c (.int .i64 1)))], none, []⟩,
    ⟨some 23, .build [(.int .i64 0), (.int .i64 0), (.int .i64 0), (.int .i64 0), .sl0] [(0, 4, (.t 22))], none, []⟩,
    ⟨some 24, .buildSlice 95 1 5 [(.int .i64 0), (.int .i64 0), (.int .i64 0), (.int .i64 0), .sl0] [(0, 5, (.t 23))], none, []⟩,
    ⟨some 25, .build [.sl0, .sl0, (.int .i64 0), (.int .i64 0)] [(1, 1, (.t 24)), (3, 1, (.c (.int .i64 10)))], none, []⟩,
    ⟨some 26, .build [(.int .i64 0), (.int .i64 0), (.int .i64 0), (.int .i64 0), (.int .i64 0)] [(0, 1, (.c (.int .i64 1))), (1, 1, (.c (.int .i64 1))), (2, 1, (.c (.int .i64 1))), (3, 1, (.c (.int .i64 1))), (4, 1, (.c (.int .i64 4)))], none, []⟩,
    ⟨some 27, .callF 48 [(.t 25), (.t 26)], none, []⟩,
    ⟨some 21, .move (.t 27), none, []⟩,
    ⟨some 28, .extract (.t 21) 0, none, []⟩,
    ⟨some 29, .extract (.t 21) 1, none, []⟩,
    ⟨some 1, .move (.t 28), none, []⟩,
    ⟨some 2, .move (.t 29), none, []⟩] .seq)
  (.seq (.seq (.region [⟨some 30, .move (.t 2), none, []⟩,
    ⟨some 31, .bin .neq (.t 30) (.c (.int .i64 0)), none, []⟩,
    ⟨some 32, .move (.t 31), none, []⟩,
    ⟨some 33, .move (.t 1), some (32, false), []⟩,
    ⟨some 34, .isNil .p false (.t 33) (.c .ptr0), some (32, false), []⟩,
    ⟨some 35, .pick (.t 32) (.c (.bool true)) (.t 34), none, []⟩,
    ⟨some 36, .move (.t 35), none, []⟩,
    ⟨some 37, .move (.t 1), some (36, false), []⟩,
    ⟨some 38, .build [(.int .i64 0), (.int .i64 0), (.int .i64 0), (.int .i64 0)] [(0, 1, (.c (.int .i64 4))), (1, 1, (.c (.int .i64 20))), (3, 1, (.c (.int .i64 1)))], some (36, false), []⟩,
    ⟨some 39, .build [(.int .i64 0), (.int .i64 0), .sl0, (.int .i64 0), (.int .i64 0), (.int .i64 0), (.int .i64 0), (.int .i64 0), (.int .i64 0), (.int .i64 0)] [(0, 1, (.c (.int .i64 3))), (1, 1, (.c (.int .i64 25))), (5, 4, (.t 38)), (9, 1, (.c (.int .i64 2)))], some (36, false), []⟩,
    ⟨some 40, .callF 55 [(.t 37), (.t 39), (.c (.int .i64 0))], some (36, false), []⟩,
    ⟨some 41, .bin .neq (.t 40) (.c (.int .i64 0)), some (36, false), []⟩,
    ⟨some 42, .pick (.t 36) (.c (.bool true)) (.t 41), none, []⟩] .seq)
  (.cond (.t 42) (.seq (.region [⟨some 0, .move (.c (.bool false)), none, []⟩] .seq)
  .ret)
  .skip))
  (.seq (.region [⟨some 43, .move (.t 1), none, []⟩,
    ⟨some 44, .callF 12 [(.t 43), (.c (.int .i64 0))], none, []⟩,
    ⟨some 3, .move (.t 44), none, []⟩] .seq)
  (.seq (.seq (.region [⟨some 45, .move (.t 3), none, []⟩,
    ⟨some 46, .isNil .p false (.t 45) (.c .ptr0), none, []⟩] .seq)
  (.cond (.t 46) (.seq (.region [⟨some 0, .move (.c (.bool false)), none, []⟩] .seq)
  .ret)
  .skip))
  (.seq (.region [⟨some 47, .move (.t 3), none, []⟩,
    ⟨some 48, .build [(.int .u32 0), (.int .i64 0), (.int .i64 0), (.int .u8 0), (.bool false), (.bool false)] [(0, 1, (.c (.int .u32 7))), (1, 1, (.c (.int .i64 3))), (2, 1, (.c (.int .i64 5)))], none, []⟩,
    ⟨some 49, .callF 13 [(.t 47), (.t 48)], none, []⟩,
    ⟨some 50, .len .sl (.t 49), none, []⟩,
    ⟨some 51, .move (.t 3), none, []⟩,
    ⟨some 52, .build [(.int .u32 0), (.int .i64 0), (.int .i64 0), (.int .u8 0), (.bool false), (.bool false)] [(0, 1, (.c (.int .u32 7))), (1, 1, (.c (.int .i64 9))), (2, 1, (.c (.int .i64 1)))], none, []⟩,
    ⟨some 53, .callF 13 [(.t 51), (.t 52)], none, []⟩,
    ⟨some 54, .len .sl (.t 53), none, []⟩,
    ⟨some 55, .bin .add (.t 50) (.t 54), none, []⟩,
    ⟨some 56, .move (.t 3), none, []⟩,
    ⟨some 57, .build [(.int .u32 0), (.int .i64 0), (.int .i64 0), (.int .u8 0), (.bool false), (.bool false)] [(0, 1, (.c (.int .u32 7))), (1, 1, (.c (.int .i64 12))), (2, 1, (.c (.int .i64 2)))], none, []⟩,
    ⟨some 58, .callF 13 [(.t 56), (.t 57)], none, []⟩,
    ⟨some 59, .len .sl (.t 58), none, []⟩,
    ⟨some 60, .bin .add (.t 55) (.t 59), none, []⟩,
    ⟨some 4, .move (.t 60), none, []⟩] .seq)
  (.seq (.region [⟨some 61, .move (.t 3), none, []⟩,
    ⟨some 62, .callF 15 [(.t 61)], none, []⟩,
    ⟨some 5, .move (.t 62), none, []⟩] .seq)
  (.seq (.region [⟨some 64, .move (.t 3), none, []⟩,
    ⟨some 65, .callF 9 [(.t 64), (.c (.int .i64 9))], none, []⟩,
    ⟨some 63, .move (.t 65), none, []⟩,
    ⟨some 66, .extract (.t 63) 0, none, []⟩,
    ⟨some 67, .extract (.t 63) 1, none, []⟩,
    ⟨some 68, .extract (.t 63) 2, none, []⟩,
    ⟨some 6, .alloc 28 [(.int .i64 0), (.int .u32 0), (.int .i64 0), (.int .i64 0), (.int .u8 0), (.int .i64 0), (.int .i64 0), (.int .u64 0), (.int .i64 0), (.int .i64 0)], none, []⟩,
    ⟨none, .store 10 (.t 6) (.t 66), none, []⟩,
    ⟨some 7, .move (.t 67), none, []⟩,
    ⟨some 8, .move (.t 68), none, []⟩] .seq)
  (.seq (.region [⟨some 70, .move (.t 3), none, []⟩,
    ⟨some 71, .callF 9 [(.t 70), (.c (.int .i64 10))], none, []⟩,
    ⟨some 69, .move (.t 71), none, []⟩,
    ⟨some 72, .extract (.t 69) 0, none, []⟩,
    ⟨some 73, .extract (.t 69) 1, none, []⟩,
    ⟨some 74, .extract (.t 69) 2, none, []⟩,
    ⟨some 9, .alloc 28 [(.int .i64 0), (.int .u32 0), (.int .i64 0), (.int .i64 0), (.int .u8 0), (.int .i64 0), (.int .i64 0), (.int .u64 0), (.int .i64 0), (.int .i64 0)], none, []⟩,
    ⟨none, .store 10 (.t 9) (.t 72), none, []⟩,
    ⟨some 10, .move (.t 73), none, []⟩,
    ⟨some 11, .move (.t 74), none, []⟩] .seq)
  (.seq (.region [⟨some 76, .move (.t 3), none, []⟩,
    ⟨some 77, .callF 10 [(.t 76), (.c (.int .i64 10))], none, []⟩,
    ⟨some 75, .move (.t 77), none, []⟩,
    ⟨some 78, .extract (.t 75) 0, none, []⟩,
    ⟨some 79, .extract (.t 75) 1, none, []⟩,
    ⟨some 12, .move (.t 78), none, []⟩,
    ⟨some 13, .move (.t 79), none, []⟩] .seq)
  (.seq (.region [⟨some 80, .move (.t 3), none, []⟩,
    ⟨some 81, .build [(.int .u32 0), (.int .i64 0), (.int .i64 0), (.int .u8 0), (.bool false), (.bool false)] [(0, 1, (.c (.int .u32 7))), (1, 1, (.c (.int .i64 21))), (2, 1, (.c (.int .i64 4)))], none, []⟩,
    ⟨some 82, .callF 13 [(.t 80), (.t 81)], none, []⟩] .seq)
  (.seq (.region [⟨some 84, .move (.t 3), none, []⟩,
    ⟨some 85, .callF 10 [(.t 84), (.c (.int .i64 25))], none, []⟩,
    ⟨some 83, .move (.t 85), none, []⟩,
    ⟨some 86, .extract (.t 83) 0, none, []⟩,
    ⟨some 87, .extract (.t 83) 1, none, []⟩,
    ⟨some 14, .move (.t 86), none, []⟩,
    ⟨some 15, .move (.t 87), none, []⟩] .seq)
  (.seq (.region [⟨some 89, .move (.t 3), none, []⟩,
    ⟨some 90, .callF 10 [(.t 89), (.c (.int .i64 25))], none, []⟩,
    ⟨some 88, .move (.t 90), none, []⟩,
    ⟨some 91, .extract (.t 88) 0, none, []⟩,
    ⟨some 92, .extract (.t 88) 1, none, []⟩,
    ⟨some 16, .move (.t 91), none, []⟩,
    ⟨some 17, .move (.t 92), none, []⟩] .seq)
  (.seq (.region [⟨some 93, .move (.t 3), none, []⟩,
    ⟨some 94, .callF 16 [(.t 93)], none, []⟩,
    ⟨some 18, .move (.t 94), none, []⟩] .seq)
  (.seq (.region [⟨some 95, .move (.t 3), none, []⟩,
    ⟨some 96, .build [(.int .u32 0), (.int .i64 0), (.int .i64 0), (.int .u8 0), (.bool false), (.bool false)] [(0, 1, (.c (.int .u32 7))), (1, 1, (.c (.int .i64 25))), (2, 1, (.c (.int .i64 1)))], none, []⟩,
    ⟨some 97, .callF 13 [(.t 95), (.t 96)], none, []⟩] .seq)
  (.seq (.region [⟨some 99, .move (.t 3), none, []⟩,
    ⟨some 100, .callF 10 [(.t 99), (.c (.int .i64 40))], none, []⟩,
    ⟨some 98, .move (.t 100), none, []⟩,
    ⟨some 101, .extract (.t 98) 0, none, []⟩,
    ⟨some 102, .extract (.t 98) 1, none, []⟩,
    ⟨some 19, .move (.t 101), none, []⟩,
    ⟨some 20, .move (.t 102), none, []⟩] .seq)
  (.seq (.region [⟨some 103, .move (.t 4), none, []⟩,
    ⟨some 104, .bin .eql (.t 103) (.c (.int .i64 0)), none, []⟩,
    ⟨some 105, .move (.t 104), none, []⟩,
    ⟨some 106, .move (.t 5), some (105, true), []⟩,
    ⟨some 107, .bin .eql (.t 106) (.c (.int .i64 2)), some (105, true), []⟩,
    ⟨some 108, .pick (.t 105) (.t 107) (.c (.bool false)), none, []⟩,
    ⟨some 109, .move (.t 108), none, []⟩,
    ⟨some 110, .move (.t 8), some (109, true), []⟩,
    ⟨some 111, .un .not (.t 110), some (109, true), []⟩,
    ⟨some 112, .pick (.t 109) (.t 111) (.c (.bool false)), none, []⟩,
    ⟨some 113, .move (.t 112), none, []⟩,
    ⟨some 114, .move (.t 11), some (113, true), []⟩,
    ⟨some 115, .pick (.t 113) (.t 114) (.c (.bool false)), none, []⟩,
    ⟨some 116, .move (.t 115), none, []⟩,
    ⟨some 117, .move (.t 10), some (116, true), []⟩,
    ⟨some 118, .bin .eql (.t 117) (.c (.int .i64 10)), some (116, true), []⟩,
    ⟨some 119, .pick (.t 116) (.t 118) (.c (.bool false)), none, []⟩,
    ⟨some 120, .move (.t 119), none, []⟩,
    ⟨some 121, .fieldAddr 2 (.t 9), some (120, true), []⟩,
    ⟨some 122, .load1 (.t 121), some (120, true), []⟩,
    ⟨some 123, .bin .eql (.t 122) (.c (.int .i64 0)), some (120, true), []⟩,
    ⟨some 124, .pick (.t 120) (.t 123) (.c (.bool false)), none, []⟩,
    ⟨some 125, .move (.t 124), none, []⟩,
    ⟨some 126, .fieldAddr 3 (.t 9), some (125, true), []⟩,
    ⟨some 127, .load1 (.t 126), some (125, true), []⟩,
    ⟨some 128, .bin .eql (.t 127) (.c (.int .i64 10)), some (125, true), []⟩,
    ⟨some 129, .pick (.t 125) (.t 128) (.c (.bool false)), none, []⟩,
    ⟨some 130, .move (.t 129), none, []⟩,
    ⟨some 131, .fieldAddr 5 (.t 9), some (130, true), []⟩,
    ⟨some 132, .fieldAddr 0 (.t 131), some (130, true), []⟩,
    ⟨some 133, .load1 (.t 132), some (130, true), []⟩,
    ⟨some 134, .bin .eql (.t 133) (.c (.int .i64 2)), some (130, true), []⟩,
    ⟨some 135, .pick (.t 130) (.t 134) (.c (.bool false)), none, []⟩,
    ⟨some 136, .move (.t 135), none, []⟩,
    ⟨some 137, .move (.t 13), some (136, true), []⟩,
    ⟨some 138, .pick (.t 136) (.t 137) (.c (.bool false)), none, []⟩,
    ⟨some 139, .move (.t 138), none, []⟩,
    ⟨some 140, .move (.t 12), some (139, true), []⟩,
    ⟨some 141, .build [(.int .u32 0), (.int .i64 0), (.int .i64 0), (.int .u8 0), (.bool false), (.bool false)] [(0, 1, (.c (.int .u32 7))), (1, 1, (.c (.int .i64 9))), (2, 1, (.c (.int .i64 6)))], some (139, true), []⟩,
    ⟨some 142, .callF 20 [(.t 140), (.t 141)], some (139, true), []⟩,
    ⟨some 143, .pick (.t 139) (.t 142) (.c (.bool false)), none, []⟩,
    ⟨some 144, .move (.t 143), none, []⟩,
    ⟨some 145, .move (.t 15), some (144, true), []⟩,
    ⟨some 146, .pick (.t 144) (.t 145) (.c (.bool false)), none, []⟩,
    ⟨some 147, .move (.t 146), none, []⟩,
    ⟨some 148, .move (.t 14), some (147, true), []⟩,
    ⟨some 149, .build [(.int .u32 0), (.int .i64 0), (.int .i64 0), (.int .u8 0), (.bool false), (.bool false)] [(0, 1, (.c (.int .u32 7))), (1, 1, (.c (.int .i64 19))), (2, 1, (.c (.int .i64 2)))], some (147, true), []⟩,
    ⟨some 150, .callF 20 [(.t 148), (.t 149)], some (147, true), []⟩,
    ⟨some 151, .pick (.t 147) (.t 150) (.c (.bool false)), none, []⟩,
    ⟨some 152, .move (.t 151), none, []⟩,
    ⟨some 153, .move (.t 17), some (152, true), []⟩,
    ⟨some 154, .pick (.t 152) (.t 153) (.c (.bool false)), none, []⟩,
    ⟨some 155, .move (.t 154), none, []⟩,
    ⟨some 156, .move (.t 16), some (155, true), []⟩,
    ⟨some 157, .len .sl (.t 156), some (155, true), []⟩,
    ⟨some 158, .bin .eql (.t 157) (.c (.int .i64 0)), some (155, true), []⟩,
    ⟨some 159, .pick (.t 155) (.t 158) (.c (.bool false)), none, []⟩,
    ⟨some 160, .move (.t 159), none, []⟩,
    ⟨some 161, .move (.t 18), some (160, true), []⟩,
    ⟨some 162, .len .sl (.t 161), some (160, true), []⟩,
    ⟨some 163, .bin .eql (.t 162) (.c (.int .i64 1)), some (160, true), []⟩,
    ⟨some 164, .pick (.t 160) (.t 163) (.c (.bool false)), none, []⟩,
    ⟨some 165, .move (.t 164), none, []⟩,
    ⟨some 166, .move (.t 18), some (165, true), []⟩,
    ⟨some 167, .indexAddrS 10 (.t 166) (.c (.int .i64 0)), some (165, true), []⟩,
    ⟨some 168, .fieldAddr 0 (.t 167), some (165, true), []⟩,
    ⟨some 169, .load1 (.t 168), some (165, true), []⟩,
    ⟨some 170, .bin .eql (.t 169) (.c (.int .i64 1)), some (165, true), []⟩,
    ⟨some 171, .pick (.t 165) (.t 170) (.c (.bool false)), none, []⟩,
    ⟨some 172, .move (.t 171), none, []⟩,
    ⟨some 173, .move (.t 18), some (172, true), []⟩,
    ⟨some 174, .indexAddrS 10 (.t 173) (.c (.int .i64 0)), some (172, true), []⟩,
    ⟨some 175, .fieldAddr 2 (.t 174), some (172, true), []⟩,
    ⟨some 176, .load1 (.t 175), some (172, true), []⟩,
    ⟨some 177, .bin .eql (.t 176) (.c (.int .i64 20)), some (172, true), []⟩,
    ⟨some 178, .pick (.t 172) (.t 177) (.c (.bool false)), none, []⟩,
    ⟨some 179, .move (.t 178), none, []⟩,
    ⟨some 180, .move (.t 18), some (179, true), []⟩,
    ⟨some 181, .indexAddrS 10 (.t 180) (.c (.int .i64 0)), some (179, true), []⟩,
    ⟨some 182, .fieldAddr 3 (.t 181), some (179, true), []⟩,
    ⟨some 183, .load1 (.t 182), some (179, true), []⟩,
    ⟨some 184, .bin .eql (.t 183) (.c (.int .i64 40)), some (179, true), []⟩,
    ⟨some 185, .pick (.t 179) (.t 184) (.c (.bool false)), none, []⟩,
    ⟨some 186, .move (.t 185), none, []⟩,
    ⟨some 187, .move (.t 18), some (186, true), []⟩,
    ⟨some 188, .indexAddrS 10 (.t 187) (.c (.int .i64 0)), some (186, true), []⟩,
    ⟨some 189, .fieldAddr 5 (.t 188), some (186, true), []⟩,
    ⟨some 190, .fieldAddr 2 (.t 189), some (186, true), []⟩,
    ⟨some 191, .load1 (.t 190), some (186, true), []⟩,
    ⟨some 192, .bin .eql (.t 191) (.c (.int .u64 4)), some (186, true), []⟩,
    ⟨some 193, .pick (.t 186) (.t 192) (.c (.bool false)), none, []⟩,
    ⟨some 194, .move (.t 193), none, []⟩,
    ⟨some 195, .move (.t 20), some (194, true), []⟩,
    ⟨some 196, .pick (.t 194) (.t 195) (.c (.bool false)), none, []⟩,
    ⟨some 197, .move (.t 196), none, []⟩,
    ⟨some 198, .move (.t 19), some (197, true), []⟩,
    ⟨some 199, .build [(.int .u32 0), (.int .i64 0), (.int .i64 0), (.int .u8 0), (.bool false), (.bool false)] [(0, 1, (.c (.int .u32 7))), (1, 1, (.c (.int .i64 39))), (2, 1, (.c (.int .i64 5)))], some (197, true), []⟩,
    ⟨some 200, .callF 20 [(.t 198), (.t 199)], some (197, true), []⟩,
    ⟨some 201, .pick (.t 197) (.t 200) (.c (.bool false)), none, []⟩,
    ⟨some 0, .move (.t 201), none, []⟩] .seq)
  .ret)))))))))))))))))⟩
/-- (*anabranch/part.Part).Copy -/
def BF19 : AFunc := ⟨50, [.tmp 2], (.seq (.region [⟨some 2, .move (.c .ptr0), none, []⟩] .seq)
  (.seq (.seq (.region [⟨some 6, .move (.t 0), none, []⟩,
    ⟨some 7, .isNil .p false (.t 6) (.c .ptr0), none, []⟩] .seq)
  (.cond (.t 7) (.seq (.region [⟨some 2, .move (.c .ptr0), none, []⟩] .seq)
  .ret)
  .skip))
  (.seq (.region [⟨some 8, .move (.t 0), none, []⟩,
    ⟨some 9, .nilCheck (.t 8), none, []⟩,
    ⟨some 10, .fieldAddr 0 (.t 9), none, []⟩,
    ⟨some 11, .load1 (.t 10), none, [25]⟩,
    ⟨some 12, .move (.t 0), none, []⟩,
    ⟨some 13, .nilCheck (.t 12), none, []⟩,
    ⟨some 14, .fieldAddr 1 (.t 13), none, []⟩,
    ⟨some 15, .load1 (.t 14), none, [25]⟩,
    ⟨some 16, .move (.t 0), none, []⟩,
    ⟨some 17, .nilCheck (.t 16), none, []⟩,
    ⟨some 18, .fieldAddr 2 (.t 17), none, []⟩,
    ⟨some 19, .load1 (.t 18), none, [25]⟩,
    ⟨some 20, .move (.t 0), none, []⟩,
    ⟨some 21, .nilCheck (.t 20), none, []⟩,
    ⟨some 22, .fieldAddr 3 (.t 21), none, []⟩,
    ⟨some 23, .load1 (.t 22), none, [25]⟩,
    ⟨some 24, .len .mp (.t 23), none, [25]⟩,
    ⟨some 25, .mkMap (some (.t 24)), none, []⟩,
    ⟨some 26, .move (.t 0), none, []⟩,
    ⟨some 27, .nilCheck (.t 26), none, []⟩,
    ⟨some 28, .fieldAddr 4 (.t 27), none, []⟩,
    ⟨some 29, .load1 (.t 28), none, [25]⟩,
    ⟨some 30, .build [.ptr0, (.int .i64 0), (.int .i64 0), .map0, (.int .i64 0)] [(0, 1, (.t 11)), (1, 1, (.t 15)), (2, 1, (.t 19)), (3, 1, (.t 25)), (4, 1, (.t 29))], none, []⟩,
    ⟨some 31, .box 105 (.t 30), none, []⟩,
    ⟨some 3, .move (.t 31), none, []⟩] .sink)
  (.seq (.seq (.region [⟨some 32, .move (.t 0), none, []⟩,
    ⟨some 33, .nilCheck (.t 32), none, []⟩,
    ⟨some 34, .fieldAddr 3 (.t 33), none, []⟩,
    ⟨some 35, .load1 (.t 34), none, []⟩,
    ⟨some 36, .range (.t 35), none, []⟩] .seq)
  (.block 0 (.loop (.seq (.region [⟨some 37, .next (.t 36), none, []⟩,
    ⟨some 38, .extract (.t 37) 0, none, []⟩] .seq)
  (.seq (.cond (.t 38) .skip
  (.exit 0))
  (.block 1 (.seq (.region [⟨some 39, .entry (.t 36), none, []⟩,
    ⟨some 40, .extract (.t 39) 0, none, []⟩,
    ⟨some 41, .extract (.t 39) 1, none, []⟩,
    ⟨some 4, .alloc 107 [(.int .i64 0), (.int .u32 0)], none, []⟩,
    ⟨none, .store 2 (.t 4) (.t 40), none, []⟩,
    ⟨some 5, .move (.t 41), none, []⟩] .seq)
  (.region [⟨some 42, .move (.t 3), none, []⟩,
    ⟨some 43, .nilCheck (.t 42), none, []⟩,
    ⟨some 44, .fieldAddr 3 (.t 43), none, []⟩,
    ⟨some 45, .load1 (.t 44), none, [6, 7]⟩,
    ⟨some 46, .loadN 2 (.t 4), none, [6, 7]⟩,
    ⟨some 47, .move (.t 5), none, []⟩,
    ⟨some 48, .callF 56 [(.t 47)], none, []⟩,
    ⟨none, .mapUpdate [(.i .i64), (.i .u32)] true (.t 45) (.t 46) (.t 48), none, []⟩] .sink))))))))
  (.seq (.region [⟨some 49, .move (.t 3), none, []⟩,
    ⟨some 2, .move (.t 49), none, []⟩] .seq)
  .ret)))))⟩
/-- anabranch/anabranchlaw11.only -/
def BF20 : AFunc := ⟨15, [.tmp 4], (.seq (.region [⟨some 3, .box 43 (.t 1), none, []⟩,
    ⟨some 4, .move (.c (.bool false)), none, []⟩] .seq)
  (.seq (.region [⟨some 5, .move (.t 0), none, []⟩,
    ⟨some 6, .len .sl (.t 5), none, []⟩,
    ⟨some 7, .bin .eql (.t 6) (.c (.int .i64 1)), none, []⟩,
    ⟨some 8, .move (.t 7), none, []⟩,
    ⟨some 9, .move (.t 0), some (8, true), []⟩,
    ⟨some 10, .indexAddrS 6 (.t 9) (.c (.int .i64 0)), some (8, true), []⟩,
    ⟨some 11, .loadN 6 (.t 10), some (8, true), [11]⟩,
    ⟨some 12, .loadN 6 (.t 3), some (8, true), [11]⟩,
    ⟨some 13, .eqs [.i, .i, .i, .i, .b, .b] false (.t 11) (.t 12), some (8, true), []⟩,
    ⟨some 14, .pick (.t 8) (.t 13) (.c (.bool false)), none, []⟩,
    ⟨some 4, .move (.t 14), none, []⟩] .sink)
  .ret))⟩
/-- anabranch/anabranchref09.New -/
def BF22 : AFunc := ⟨23, [.tmp 4, .tmp 5], (.seq (.region [⟨some 2, .box 55 (.t 0), none, []⟩,
    ⟨some 3, .box 57 (.t 1), none, []⟩,
    ⟨some 4, .move (.c .ptr0), none, []⟩,
    ⟨some 5, .move (.c (.int .i64 0)), none, []⟩] .seq)
  (.seq (.region [⟨some 9, .loadN 4 (.t 2), none, []⟩,
    ⟨some 10, .callF 57 [(.t 9)], none, []⟩,
    ⟨some 8, .move (.t 10), none, []⟩,
    ⟨some 11, .extract (.t 8) 0, none, []⟩,
    ⟨some 12, .extract (.t 8) 1, none, []⟩,
    ⟨some 6, .move (.t 11), none, []⟩,
    ⟨some 7, .move (.t 12), none, []⟩] .seq)
  (.seq (.seq (.region [⟨some 13, .move (.t 7), none, []⟩,
    ⟨some 14, .bin .neq (.t 13) (.c (.int .i64 0)), none, []⟩] .seq)
  (.cond (.t 14) (.seq (.region [⟨some 15, .move (.t 7), none, []⟩,
    ⟨some 4, .move (.c .ptr0), none, []⟩,
    ⟨some 5, .move (.t 15), none, []⟩] .seq)
  .ret)
  .skip))
  (.seq (.seq (.region [⟨some 16, .loadN 5 (.t 3), none, []⟩,
    ⟨some 17, .callF 58 [(.t 16)], none, []⟩,
    ⟨some 18, .un .not (.t 17), none, []⟩] .seq)
  (.cond (.t 18) (.seq (.region [⟨some 4, .move (.c .ptr0), none, []⟩,
    ⟨some 5, .move (.c (.int .i64 2)), none, []⟩] .seq)
  .ret)
  .skip))
  (.seq (.region [⟨some 19, .loadN 4 (.t 2), none, []⟩,
    ⟨some 20, .loadN 5 (.t 3), none, []⟩,
    ⟨some 21, .build [.sl0, .sl0, (.int .i64 0), (.int .i64 0), (.int .i64 0), (.int .i64 0), (.int .i64 0), (.int .i64 0), (.int .i64 0), .sl0, (.int .i64 0), .sl0, .sl0, .sl0, .sl0, .sl0, .sl0, .sl0, .sl0] [(0, 4, (.t 19)), (4, 5, (.t 20))], none, []⟩,
    ⟨some 22, .box 135 (.t 21), none, []⟩,
    ⟨some 4, .move (.t 22), none, []⟩,
    ⟨some 5, .move (.c (.int .i64 0)), none, []⟩] .seq)
  .ret)))))⟩
/-- (*anabranch/part.Part).due -/
def BF39 : AFunc := ⟨46, [.tmp 4, .tmp 5], (.seq (.region [⟨some 3, .box 28 (.t 1), none, []⟩,
    ⟨some 4, .move (.c (.int .i64 0)), none, []⟩,
    ⟨some 5, .move (.c .ptr0), none, []⟩] .seq)
  (.seq (.seq (.region [⟨some 9, .move (.t 0), none, []⟩,
    ⟨some 10, .nilCheck (.t 9), none, []⟩,
    ⟨some 11, .fieldAddr 0 (.t 10), none, []⟩,
    ⟨some 12, .load1 (.t 11), none, [10]⟩,
    ⟨some 13, .move (.t 0), none, []⟩,
    ⟨some 14, .nilCheck (.t 13), none, []⟩,
    ⟨some 15, .fieldAddr 1 (.t 14), none, []⟩,
    ⟨some 16, .load1 (.t 15), none, [10]⟩,
    ⟨some 17, .fieldAddr 0 (.t 3), none, []⟩,
    ⟨some 18, .load1 (.t 17), none, [10]⟩,
    ⟨some 19, .callF 76 [(.t 12), (.t 16), (.t 18)], none, []⟩,
    ⟨some 8, .move (.t 19), none, []⟩,
    ⟨some 20, .extract (.t 8) 0, none, []⟩,
    ⟨some 21, .extract (.t 8) 1, none, []⟩,
    ⟨some 6, .alloc 86 [(.int .i64 0), (.int .i64 0), .sl0, (.int .i64 0), (.int .i64 0), (.int .i64 0), (.int .i64 0), (.int .i64 0), (.int .i64 0), (.int .i64 0)], none, []⟩,
    ⟨none, .store 10 (.t 6) (.t 20), none, []⟩,
    ⟨some 7, .move (.t 21), none, []⟩] .sink)
  (.seq (.region [⟨some 22, .move (.t 7), none, []⟩,
    ⟨some 23, .move (.t 22), none, []⟩,
    ⟨some 24, .move (.t 0), some (23, true), []⟩,
    ⟨some 25, .nilCheck (.t 24), some (23, true), []⟩,
    ⟨some 26, .fieldAddr 2 (.t 25), some (23, true), []⟩,
    ⟨some 27, .load1 (.t 26), some (23, true), []⟩,
    ⟨some 28, .bin .eql (.t 27) (.c (.int .i64 1)), some (23, true), []⟩,
    ⟨some 29, .pick (.t 23) (.t 28) (.c (.bool false)), none, []⟩,
    ⟨some 30, .move (.t 29), none, []⟩,
    ⟨some 31, .fieldAddr 1 (.t 6), some (30, true), []⟩,
    ⟨some 32, .load1 (.t 31), some (30, true), []⟩,
    ⟨some 33, .fieldAddr 3 (.t 3), some (30, true), []⟩,
    ⟨some 34, .load1 (.t 33), some (30, true), []⟩,
    ⟨some 35, .bin .lss (.t 32) (.t 34), some (30, true), []⟩,
    ⟨some 36, .pick (.t 30) (.t 35) (.c (.bool false)), none, []⟩,
    ⟨some 37, .move (.t 36), none, []⟩,
    ⟨some 38, .fieldAddr 9 (.t 6), some (37, true), []⟩,
    ⟨some 39, .load1 (.t 38), some (37, true), []⟩,
    ⟨some 40, .bin .neq (.t 39) (.c (.int .i64 0)), some (37, true), []⟩,
    ⟨some 41, .pick (.t 37) (.t 40) (.c (.bool false)), none, []⟩] .seq)
  (.cond (.t 41) (.seq (.region [⟨some 42, .fieldAddr 1 (.t 6), none, []⟩,
    ⟨some 43, .load1 (.t 42), none, []⟩,
    ⟨some 4, .move (.t 43), none, []⟩,
    ⟨some 5, .move (.t 6), none, []⟩] .seq)
  .ret)
  .skip)))
  (.seq (.region [⟨some 44, .fieldAddr 3 (.t 3), none, []⟩,
    ⟨some 45, .load1 (.t 44), none, []⟩,
    ⟨some 4, .move (.t 45), none, []⟩,
    ⟨some 5, .move (.c .ptr0), none, []⟩] .seq)
  .ret)))⟩
/-- anabranch/part.first -/
def BF40 : AFunc := ⟨5, [.tmp 2], (.seq (.region [⟨some 2, .move (.c (.int .i64 0)), none, []⟩] .seq)
  (.seq (.region [⟨some 3, .move (.t 0), none, []⟩,
    ⟨some 4, .callF 77 [(.t 3)], none, []⟩,
    ⟨some 2, .move (.t 4), none, []⟩] .seq)
  .ret))⟩
/-- cmp.Compare[int64] -/
def BF41 : AFunc := ⟨20, [.tmp 4], (.seq (.region [⟨some 4, .move (.c (.int .i64 0)), none, []⟩] .seq)
  (.seq (.region [⟨some 7, .move (.t 0), none, []⟩,
    ⟨some 8, .callF 78 [(.t 7)], none, []⟩,
    ⟨some 5, .move (.t 8), none, []⟩] .seq)
  (.seq (.region [⟨some 9, .move (.t 1), none, []⟩,
    ⟨some 10, .callF 78 [(.t 9)], none, []⟩,
    ⟨some 6, .move (.t 10), none, []⟩] .seq)
  (.seq (.seq (.region [⟨some 11, .move (.t 5), none, []⟩] .seq)
  (.cond (.t 11) (.seq (.seq (.region [⟨some 12, .move (.t 6), none, []⟩] .seq)
  (.cond (.t 12) (.seq (.region [⟨some 4, .move (.c (.int .i64 0)), none, []⟩] .seq)
  .ret)
  .skip))
  (.seq (.region [⟨some 4, .move (.c (.int .i64 (-1))), none, []⟩] .seq)
  .ret))
  .skip))
  (.seq (.seq (.region [⟨some 13, .move (.t 6), none, []⟩] .seq)
  (.cond (.t 13) (.seq (.region [⟨some 4, .move (.c (.int .i64 1)), none, []⟩] .seq)
  .ret)
  .skip))
  (.seq (.seq (.region [⟨some 14, .move (.t 0), none, []⟩,
    ⟨some 15, .move (.t 1), none, []⟩,
    ⟨some 16, .bin .lss (.t 14) (.t 15), none, []⟩] .seq)
  (.cond (.t 16) (.seq (.region [⟨some 4, .move (.c (.int .i64 (-1))), none, []⟩] .seq)
  .ret)
  .skip))
  (.seq (.seq (.region [⟨some 17, .move (.t 0), none, []⟩,
    ⟨some 18, .move (.t 1), none, []⟩,
    ⟨some 19, .bin .gtr (.t 17) (.t 18), none, []⟩] .seq)
  (.cond (.t 19) (.seq (.region [⟨some 4, .move (.c (.int .i64 1)), none, []⟩] .seq)
  .ret)
  .skip))
  (.seq (.region [⟨some 4, .move (.c (.int .i64 0)), none, []⟩] .seq)
  .ret))))))))⟩
/-- anabranch/part.order -/
def BF42 : AFunc := ⟨39, [.tmp 4], (.seq (.region [⟨some 2, .box 28 (.t 0), none, []⟩,
    ⟨some 3, .box 28 (.t 1), none, []⟩,
    ⟨some 4, .move (.c (.int .i64 0)), none, []⟩] .seq)
  (.seq (.region [⟨some 5, .fieldAddr 0 (.t 2), none, []⟩,
    ⟨some 6, .load1 (.t 5), none, [4]⟩,
    ⟨some 7, .fieldAddr 0 (.t 3), none, []⟩,
    ⟨some 8, .load1 (.t 7), none, [4]⟩,
    ⟨some 9, .callF 79 [(.t 6), (.t 8)], none, []⟩,
    ⟨some 10, .fieldAddr 1 (.t 2), none, []⟩,
    ⟨some 11, .load1 (.t 10), none, [4, 9]⟩,
    ⟨some 12, .fieldAddr 1 (.t 3), none, []⟩,
    ⟨some 13, .load1 (.t 12), none, [4, 9]⟩,
    ⟨some 14, .callF 80 [(.t 11), (.t 13)], none, []⟩,
    ⟨some 15, .fieldAddr 2 (.t 2), none, []⟩,
    ⟨some 16, .load1 (.t 15), none, [4, 9, 14]⟩,
    ⟨some 17, .fieldAddr 2 (.t 3), none, []⟩,
    ⟨some 18, .load1 (.t 17), none, [4, 9, 14]⟩,
    ⟨some 19, .callF 41 [(.t 16), (.t 18)], none, []⟩,
    ⟨some 20, .fieldAddr 3 (.t 2), none, []⟩,
    ⟨some 21, .load1 (.t 20), none, [4, 9, 14, 19]⟩,
    ⟨some 22, .fieldAddr 3 (.t 3), none, []⟩,
    ⟨some 23, .load1 (.t 22), none, [4, 9, 14, 19]⟩,
    ⟨some 24, .callF 41 [(.t 21), (.t 23)], none, []⟩,
    ⟨some 25, .fieldAddr 4 (.t 2), none, []⟩,
    ⟨some 26, .load1 (.t 25), none, [4, 9, 14, 19, 24]⟩,
    ⟨some 27, .fieldAddr 4 (.t 3), none, []⟩,
    ⟨some 28, .load1 (.t 27), none, [4, 9, 14, 19, 24]⟩,
    ⟨some 29, .callF 81 [(.t 26), (.t 28)], none, []⟩,
    ⟨some 30, .fieldAddr 5 (.t 2), none, []⟩,
    ⟨some 31, .fieldAddr 3 (.t 30), none, []⟩,
    ⟨some 32, .load1 (.t 31), none, [4, 9, 14, 19, 24, 31]⟩,
    ⟨some 33, .fieldAddr 5 (.t 3), none, []⟩,
    ⟨some 34, .fieldAddr 3 (.t 33), none, []⟩,
    ⟨some 35, .load1 (.t 34), none, [4, 9, 14, 19, 24, 31]⟩,
    ⟨some 36, .callF 41 [(.t 32), (.t 35)], none, []⟩,
    ⟨some 37, .buildSlice 3 6 1 [(.int .i64 0), (.int .i64 0), (.int .i64 0), (.int .i64 0), (.int .i64 0), (.int .i64 0)] [(0, 1, (.t 9)), (1, 1, (.t 14)), (2, 1, (.t 19)), (3, 1, (.t 24)), (4, 1, (.t 29)), (5, 1, (.t 36))], none, []⟩,
    ⟨some 38, .callF 40 [(.t 37)], none, []⟩,
    ⟨some 4, .move (.t 38), none, []⟩] .sink)
  .ret))⟩
/-- (*anabranch/part.Part).without -/
def BF43 : AFunc := ⟨45, [], (.seq (.region [⟨some 3, .box 28 (.t 1), none, []⟩] .seq)
  (.seq (.region [⟨some 6, .move (.t 0), none, []⟩,
    ⟨some 7, .nilCheck (.t 6), none, []⟩,
    ⟨some 8, .fieldAddr 3 (.t 7), none, []⟩,
    ⟨some 9, .load1 (.t 8), none, [5, 8]⟩,
    ⟨some 10, .loadN 10 (.t 3), none, [5]⟩,
    ⟨some 11, .callF 82 [(.t 10)], none, []⟩,
    ⟨some 12, .lookup [(.i .i64), (.i .u32)] true .sl0 (.t 9) (.t 11) false, none, [8]⟩,
    ⟨some 4, .move (.t 12), none, []⟩] .sink)
  (.seq (.region [⟨some 13, .move (.t 4), none, []⟩,
    ⟨some 14, .loadN 10 (.t 3), none, []⟩,
    ⟨some 15, .callF 83 [(.t 13), (.t 14)], none, []⟩,
    ⟨some 5, .move (.t 15), none, []⟩] .seq)
  (.seq (.seq (.region [⟨some 16, .move (.t 4), none, []⟩,
    ⟨some 17, .callF 56 [(.t 16)], none, []⟩,
    ⟨some 18, .move (.t 5), none, []⟩,
    ⟨some 19, .move (.t 5), none, []⟩,
    ⟨some 20, .bin .add (.t 19) (.c (.int .i64 1)), none, []⟩,
    ⟨some 21, .callF 84 [(.t 17), (.t 18), (.t 20)], none, []⟩,
    ⟨some 4, .move (.t 21), none, []⟩] .seq)
  (.seq (.region [⟨some 22, .move (.t 4), none, []⟩,
    ⟨some 23, .len .sl (.t 22), none, []⟩,
    ⟨some 24, .bin .eql (.t 23) (.c (.int .i64 0)), none, []⟩] .seq)
  (.cond (.t 24) (.region [⟨some 25, .move (.t 0), none, []⟩,
    ⟨some 26, .nilCheck (.t 25), none, []⟩,
    ⟨some 27, .fieldAddr 3 (.t 26), none, []⟩,
    ⟨some 28, .load1 (.t 27), none, [5, 6]⟩,
    ⟨some 29, .loadN 10 (.t 3), none, [5]⟩,
    ⟨some 30, .callF 82 [(.t 29)], none, []⟩,
    ⟨none, .delete [(.i .i64), (.i .u32)] true (.t 28) (.t 30), none, []⟩] .sink)
  (.region [⟨some 31, .move (.t 0), none, []⟩,
    ⟨some 32, .nilCheck (.t 31), none, []⟩,
    ⟨some 33, .fieldAddr 3 (.t 32), none, []⟩,
    ⟨some 34, .load1 (.t 33), none, [5, 7]⟩,
    ⟨some 35, .loadN 10 (.t 3), none, [5]⟩,
    ⟨some 36, .callF 82 [(.t 35)], none, []⟩,
    ⟨some 37, .move (.t 4), none, []⟩,
    ⟨none, .mapUpdate [(.i .i64), (.i .u32)] true (.t 34) (.t 36) (.t 37), none, []⟩] .sink))))
  (.region [⟨some 38, .move (.t 0), none, []⟩,
    ⟨some 39, .nilCheck (.t 38), none, []⟩,
    ⟨some 40, .fieldAddr 4 (.t 39), none, []⟩,
    ⟨some 41, .load1 (.t 40), none, []⟩,
    ⟨some 42, .bin .sub (.t 41) (.c (.int .i64 1)), none, []⟩,
    ⟨some 43, .nilCheck (.t 38), none, []⟩,
    ⟨some 44, .fieldAddr 4 (.t 43), none, []⟩,
    ⟨none, .store 1 (.t 44) (.t 42), none, []⟩] .seq)))))⟩
/-- (*anabranch/part.Part).into -/
def BF44 : AFunc := ⟨46, [], (.seq (.region [⟨some 9, .box 26 (.t 4), none, []⟩] .seq)
  (.seq (.region [⟨some 15, .move (.t 0), none, []⟩,
    ⟨some 16, .nilCheck (.t 15), none, []⟩,
    ⟨some 17, .fieldAddr 0 (.t 16), none, []⟩,
    ⟨some 18, .load1 (.t 17), none, [9]⟩,
    ⟨some 19, .move (.t 0), none, []⟩,
    ⟨some 20, .nilCheck (.t 19), none, []⟩,
    ⟨some 21, .fieldAddr 1 (.t 20), none, []⟩,
    ⟨some 22, .load1 (.t 21), none, [9]⟩,
    ⟨some 23, .move (.t 1), none, []⟩,
    ⟨some 24, .callF 45 [(.t 18), (.t 22), (.t 23)], none, []⟩,
    ⟨some 14, .move (.t 24), none, []⟩,
    ⟨some 25, .extract (.t 14) 0, none, []⟩,
    ⟨some 26, .extract (.t 14) 1, none, []⟩,
    ⟨some 10, .alloc 84 [(.int .i64 0), (.int .i64 0), (.int .i64 0), (.int .i64 0)], none, []⟩,
    ⟨none, .store 4 (.t 10) (.t 25), none, []⟩,
    ⟨some 11, .move (.t 26), none, []⟩] .sink)
  (.seq (.region [⟨some 27, .loadN 4 (.t 10), none, []⟩,
    ⟨some 28, .move (.t 3), none, []⟩,
    ⟨some 29, .callF 85 [(.t 27), (.t 28)], none, []⟩,
    ⟨some 30, .len .sl (.t 29), none, []⟩,
    ⟨some 31, .move (.c (.int .i64 0)), none, []⟩] .seq)
  (.block 0 (.loop (.seq (.region [⟨some 32, .bin .lss (.t 31) (.t 30), none, []⟩] .seq)
  (.seq (.cond (.t 32) .skip
  (.exit 0))
  (.seq (.block 1 (.seq (.region [⟨some 33, .indexAddrS 2 (.t 29) (.t 31), none, []⟩,
    ⟨some 34, .loadN 2 (.t 33), none, []⟩,
    ⟨some 13, .alloc 96 [(.int .i64 0), (.int .i64 0)], none, []⟩,
    ⟨none, .store 2 (.t 13) (.t 34), none, []⟩] .seq)
  (.region [⟨some 35, .move (.t 0), none, []⟩,
    ⟨some 36, .move (.t 1), none, []⟩,
    ⟨some 37, .move (.t 2), none, []⟩,
    ⟨some 38, .indexAddrA 2 1 (.t 13) (.c (.int .i64 0)), none, []⟩,
    ⟨some 39, .load1 (.t 38), none, []⟩,
    ⟨some 40, .indexAddrA 2 1 (.t 13) (.c (.int .i64 1)), none, []⟩,
    ⟨some 41, .load1 (.t 40), none, []⟩,
    ⟨some 42, .loadN 5 (.t 9), none, []⟩,
    ⟨some 43, .build [(.int .i64 0), (.int .u32 0), (.int .i64 0), (.int .i64 0), (.int .u8 0), (.int .i64 0), (.int .i64 0), (.int .u64 0), (.int .i64 0), (.int .i64 0)] [(0, 1, (.t 36)), (1, 1, (.t 37)), (2, 1, (.t 39)), (3, 1, (.t 41)), (5, 5, (.t 42))], none, []⟩,
    ⟨some 44, .callF 53 [(.t 35), (.t 43)], none, []⟩] .seq)))
  (.region [⟨some 45, .bin .add (.t 31) (.c (.int .i64 1)), none, []⟩,
    ⟨some 31, .move (.t 45), none, []⟩] .seq)))))))))⟩
/-- (*anabranch/table.Table).Op -/
def BF45 : AFunc := ⟨44, [.cellN 6 4, .tmp 7], (.seq (.region [⟨some 6, .alloc 84 [(.int .i64 0), (.int .i64 0), (.int .i64 0), (.int .i64 0)], none, []⟩,
    ⟨some 7, .move (.c (.bool false)), none, []⟩] .seq)
  (.seq (.seq (.region [⟨some 10, .move (.t 0), none, []⟩,
    ⟨some 11, .isNil .p false (.t 10) (.c .ptr0), none, []⟩,
    ⟨some 12, .move (.t 11), none, []⟩,
    ⟨some 13, .move (.t 1), some (12, false), []⟩,
    ⟨some 14, .move (.t 0), some (12, false), []⟩,
    ⟨some 15, .nilCheck (.t 14), some (12, false), []⟩,
    ⟨some 16, .fieldAddr 19 (.t 15), some (12, false), []⟩,
    ⟨some 17, .load1 (.t 16), some (12, false), []⟩,
    ⟨some 18, .len .sl (.t 17), some (12, false), []⟩,
    ⟨some 19, .bin .sub (.t 18) (.c (.int .i64 1)), some (12, false), []⟩,
    ⟨some 20, .callF 86 [(.t 13), (.c (.int .i64 0)), (.t 19)], some (12, false), []⟩,
    ⟨some 21, .un .not (.t 20), some (12, false), []⟩,
    ⟨some 22, .pick (.t 12) (.c (.bool true)) (.t 21), none, []⟩] .seq)
  (.cond (.t 22) (.seq (.region [⟨some 23, .build [(.int .i64 0), (.int .i64 0), (.int .i64 0), (.int .i64 0)] [], none, []⟩,
    ⟨none, .store 4 (.t 6) (.t 23), none, []⟩,
    ⟨some 7, .move (.c (.bool false)), none, []⟩] .seq)
  .ret)
  .skip))
  (.seq (.seq (.region [⟨some 24, .move (.t 2), none, []⟩,
    ⟨some 25, .bin .eql (.t 24) (.c (.int .i64 0)), none, []⟩] .seq)
  (.cond (.t 25) (.seq (.region [⟨some 26, .move (.t 0), none, []⟩,
    ⟨some 27, .nilCheck (.t 26), none, []⟩,
    ⟨some 28, .fieldAddr 19 (.t 27), none, []⟩,
    ⟨some 29, .load1 (.t 28), none, []⟩,
    ⟨some 30, .move (.t 1), none, []⟩,
    ⟨some 31, .indexAddrS 4 (.t 29) (.t 30), none, []⟩,
    ⟨some 32, .loadN 4 (.t 31), none, []⟩,
    ⟨none, .store 4 (.t 6) (.t 32), none, []⟩,
    ⟨some 7, .move (.c (.bool true)), none, []⟩] .seq)
  .ret)
  .skip))
  (.seq (.region [⟨some 34, .move (.t 0), none, []⟩,
    ⟨some 35, .move (.t 1), none, []⟩,
    ⟨some 36, .move (.t 2), none, []⟩,
    ⟨some 37, .bin .sub (.t 36) (.c (.int .i64 1)), none, []⟩,
    ⟨some 38, .callF 76 [(.t 34), (.t 35), (.t 37)], none, []⟩,
    ⟨some 33, .move (.t 38), none, []⟩,
    ⟨some 39, .extract (.t 33) 0, none, []⟩,
    ⟨some 40, .extract (.t 33) 1, none, []⟩,
    ⟨some 8, .alloc 86 [(.int .i64 0), (.int .i64 0), .sl0, (.int .i64 0), (.int .i64 0), (.int .i64 0), (.int .i64 0), (.int .i64 0), (.int .i64 0), (.int .i64 0)], none, []⟩,
    ⟨none, .store 10 (.t 8) (.t 39), none, []⟩,
    ⟨some 9, .move (.t 40), none, []⟩] .seq)
  (.seq (.region [⟨some 41, .fieldAddr 5 (.t 8), none, []⟩,
    ⟨some 42, .loadN 4 (.t 41), none, []⟩,
    ⟨some 43, .move (.t 9), none, []⟩,
    ⟨none, .store 4 (.t 6) (.t 42), none, []⟩,
    ⟨some 7, .move (.t 43), none, []⟩] .seq)
  .ret)))))⟩
/-- anabranch/acc.Result -/
def BF46 : AFunc := ⟨19, [.tmp 4, .tmp 5], (.seq (.region [⟨some 2, .box 26 (.t 0), none, []⟩,
    ⟨some 4, .move (.c (.int .i64 0)), none, []⟩,
    ⟨some 5, .move (.c (.bool false)), none, []⟩] .seq)
  (.seq (.seq (.region [⟨some 6, .move (.t 1), none, []⟩,
    ⟨some 7, .bin .lss (.t 6) (.c (.int .i64 0)), none, []⟩,
    ⟨some 8, .move (.t 7), none, []⟩,
    ⟨some 9, .move (.t 1), some (8, false), []⟩,
    ⟨some 10, .bin .gtr (.t 9) (.c (.int .i64 3)), some (8, false), []⟩,
    ⟨some 11, .pick (.t 8) (.c (.bool true)) (.t 10), none, []⟩] .seq)
  (.cond (.t 11) (.seq (.region [⟨some 4, .move (.c (.int .i64 0)), none, []⟩,
    ⟨some 5, .move (.c (.bool false)), none, []⟩] .seq)
  .ret)
  .skip))
  (.seq (.region [⟨some 12, .callF 87 [], none, []⟩,
    ⟨some 13, .move (.t 1), none, []⟩,
    ⟨some 14, .index 4 1 false (.t 12) (.t 13), none, []⟩,
    ⟨some 15, .loadN 5 (.t 2), none, [0, 4]⟩,
    ⟨some 16, .callV (.t 14) [(.t 15)], none, []⟩,
    ⟨some 17, .extract (.t 16) 0, none, []⟩,
    ⟨some 18, .extract (.t 16) 1, none, []⟩,
    ⟨some 4, .move (.t 17), none, []⟩,
    ⟨some 5, .move (.t 18), none, []⟩] .sink)
  .ret)))⟩
/-- (anabranch/anabranchlaw11.Setup).op -/
def BF47 : AFunc := ⟨45, [.cellN 2 4], (.seq (.region [⟨some 1, .box 38 (.t 0), none, []⟩,
    ⟨some 2, .alloc 84 [(.int .i64 0), (.int .i64 0), (.int .i64 0), (.int .i64 0)], none, []⟩] .seq)
  (.seq (.region [⟨some 4, .fieldAddr 1 (.t 1), none, []⟩,
    ⟨some 5, .load1 (.t 4), none, []⟩,
    ⟨some 6, .bin .rem (.t 5) (.c (.int .u8 40)), none, []⟩,
    ⟨some 7, .conv .i64 (.t 6), none, []⟩,
    ⟨some 8, .bin .add (.c (.int .i64 1)) (.t 7), none, []⟩,
    ⟨some 3, .move (.t 8), none, []⟩] .seq)
  (.seq (.seq (.region [⟨some 9, .fieldAddr 0 (.t 1), none, []⟩,
    ⟨some 10, .load1 (.t 9), none, []⟩,
    ⟨some 11, .bin .rem (.t 10) (.c (.int .u8 4)), none, []⟩] .seq)
  (.block 0 (.seq (.region [⟨some 13, .bin .eql (.t 11) (.c (.int .u8 0)), none, []⟩,
    ⟨some 12, .move (.t 13), none, []⟩] .seq)
  (.cond (.t 12) (.seq (.region [⟨some 14, .move (.t 3), none, []⟩,
    ⟨some 15, .fieldAddr 3 (.t 1), none, []⟩,
    ⟨some 16, .load1 (.t 15), none, []⟩,
    ⟨some 17, .bin .rem (.t 16) (.c (.int .u8 4)), none, []⟩,
    ⟨some 18, .conv .i64 (.t 17), none, []⟩,
    ⟨some 19, .build [(.int .i64 0), (.int .i64 0), (.int .i64 0), (.int .i64 0)] [(0, 1, (.c (.int .i64 4))), (1, 1, (.t 14)), (3, 1, (.t 18))], none, []⟩,
    ⟨none, .store 4 (.t 2) (.t 19), none, []⟩] .seq)
  .ret)
  (.seq (.region [⟨some 21, .bin .eql (.t 11) (.c (.int .u8 1)), none, []⟩,
    ⟨some 20, .move (.t 21), none, []⟩] .seq)
  (.cond (.t 20) (.seq (.region [⟨some 22, .move (.t 3), none, []⟩,
    ⟨some 23, .fieldAddr 2 (.t 1), none, []⟩,
    ⟨some 24, .load1 (.t 23), none, []⟩,
    ⟨some 25, .bin .rem (.t 24) (.c (.int .u8 4)), none, []⟩,
    ⟨some 26, .conv .i64 (.t 25), none, []⟩,
    ⟨some 27, .bin .add (.c (.int .i64 1)) (.t 26), none, []⟩,
    ⟨some 28, .bin .mul (.t 22) (.t 27), none, []⟩,
    ⟨some 29, .move (.t 3), none, []⟩,
    ⟨some 30, .fieldAddr 3 (.t 1), none, []⟩,
    ⟨some 31, .load1 (.t 30), none, []⟩,
    ⟨some 32, .bin .rem (.t 31) (.c (.int .u8 4)), none, []⟩,
    ⟨some 33, .conv .i64 (.t 32), none, []⟩,
    ⟨some 34, .build [(.int .i64 0), (.int .i64 0), (.int .i64 0), (.int .i64 0)] [(0, 1, (.c (.int .i64 5))), (1, 1, (.t 28)), (2, 1, (.t 29)), (3, 1, (.t 33))], none, []⟩,
    ⟨none, .store 4 (.t 2) (.t 34), none, []⟩] .seq)
  .ret)
  (.seq (.region [⟨some 36, .bin .eql (.t 11) (.c (.int .u8 2)), none, []⟩,
    ⟨some 35, .move (.t 36), none, []⟩] .seq)
  (.cond (.t 35) (.seq (.region [⟨some 37, .move (.t 3), none, []⟩,
    ⟨some 38, .fieldAddr 3 (.t 1), none, []⟩,
    ⟨some 39, .load1 (.t 38), none, []⟩,
    ⟨some 40, .bin .rem (.t 39) (.c (.int .u8 4)), none, []⟩,
    ⟨some 41, .conv .i64 (.t 40), none, []⟩,
    ⟨some 42, .build [(.int .i64 0), (.int .i64 0), (.int .i64 0), (.int .i64 0)] [(0, 1, (.c (.int .i64 6))), (1, 1, (.t 37)), (3, 1, (.t 41))], none, []⟩,
    ⟨none, .store 4 (.t 2) (.t 42), none, []⟩] .seq)
  .ret)
  .skip))))))))
  (.seq (.region [⟨some 43, .move (.t 3), none, []⟩,
    ⟨some 44, .build [(.int .i64 0), (.int .i64 0), (.int .i64 0), (.int .i64 0)] [(0, 1, (.c (.int .i64 7))), (1, 1, (.t 43))], none, []⟩,
    ⟨none, .store 4 (.t 2) (.t 44), none, []⟩] .seq)
  .ret))))⟩
/-- anabranch/table.New -/
def BF48 : AFunc := ⟨73, [.tmp 4, .tmp 5], (.seq (.region [⟨some 2, .box 55 (.t 0), none, []⟩,
    ⟨some 3, .box 57 (.t 1), none, []⟩,
    ⟨some 4, .move (.c .ptr0), none, []⟩,
    ⟨some 5, .move (.c (.int .i64 0)), none, []⟩] .seq)
  (.seq (.seq (.region [⟨some 13, .loadN 4 (.t 2), none, []⟩,
    ⟨some 14, .callF 88 [(.t 13)], none, []⟩,
    ⟨some 12, .move (.t 14), none, []⟩,
    ⟨some 15, .extract (.t 12) 0, none, []⟩,
    ⟨some 16, .extract (.t 12) 1, none, []⟩,
    ⟨some 6, .move (.t 15), none, []⟩,
    ⟨some 7, .move (.t 16), none, []⟩] .seq)
  (.seq (.region [⟨some 17, .move (.t 7), none, []⟩,
    ⟨some 18, .bin .neq (.t 17) (.c (.int .i64 0)), none, []⟩] .seq)
  (.cond (.t 18) (.seq (.region [⟨some 19, .move (.t 7), none, []⟩,
    ⟨some 4, .move (.c .ptr0), none, []⟩,
    ⟨some 5, .move (.t 19), none, []⟩] .seq)
  .ret)
  .skip)))
  (.seq (.seq (.region [⟨some 20, .loadN 5 (.t 3), none, []⟩,
    ⟨some 21, .callF 89 [(.t 20)], none, []⟩,
    ⟨some 22, .un .not (.t 21), none, []⟩] .seq)
  (.cond (.t 22) (.seq (.region [⟨some 4, .move (.c .ptr0), none, []⟩,
    ⟨some 5, .move (.c (.int .i64 2)), none, []⟩] .seq)
  .ret)
  .skip))
  (.seq (.region [⟨some 23, .loadN 4 (.t 2), none, [1]⟩,
    ⟨some 24, .callF 90 [(.t 23)], none, []⟩,
    ⟨some 25, .loadN 5 (.t 3), none, [1, 5, 9]⟩,
    ⟨some 26, .build [.sl0, .sl0, (.int .i64 0), (.int .i64 0), (.int .i64 0), (.int .i64 0), (.int .i64 0), (.int .i64 0), (.int .i64 0)] [(0, 4, (.t 24)), (4, 5, (.t 25))], none, []⟩,
    ⟨some 27, .loadN 4 (.t 2), none, [1, 5]⟩,
    ⟨some 28, .callF 91 [(.t 27)], none, []⟩,
    ⟨some 29, .build [.sl0, .sl0, (.int .i64 0), (.int .i64 0), (.int .i64 0), (.int .i64 0), (.int .i64 0), (.int .i64 0), (.int .i64 0), .sl0, .sl0, .sl0, .sl0, .sl0, .sl0, .sl0, .sl0, .sl0, .sl0, .sl0, .sl0] [(0, 9, (.t 26)), (19, 1, (.t 28))], none, []⟩,
    ⟨some 30, .box 170 (.t 29), none, []⟩,
    ⟨some 8, .move (.t 30), none, []⟩] .sink)
  (.seq (.region [⟨some 31, .move (.t 8), none, []⟩,
    ⟨some 32, .move (.t 8), none, []⟩,
    ⟨some 33, .nilCheck (.t 32), none, []⟩,
    ⟨some 34, .fieldAddr 19 (.t 33), none, []⟩,
    ⟨some 35, .load1 (.t 34), none, []⟩,
    ⟨some 36, .len .sl (.t 35), none, []⟩,
    ⟨some 37, .mkSlice 69 1 24 [.sl0] (.t 36) (.t 36), none, []⟩,
    ⟨some 38, .nilCheck (.t 31), none, []⟩,
    ⟨some 39, .fieldAddr 20 (.t 38), none, []⟩,
    ⟨none, .store 1 (.t 39) (.t 37), none, []⟩] .seq)
  (.seq (.seq (.region [⟨some 9, .move (.c (.int .i64 1)), none, []⟩] .seq)
  (.block 0 (.loop (.seq (.seq (.region [⟨some 40, .move (.t 9), none, []⟩,
    ⟨some 41, .fieldAddr 1 (.t 3), none, []⟩,
    ⟨some 42, .load1 (.t 41), none, []⟩,
    ⟨some 43, .bin .leq (.t 40) (.t 42), none, []⟩] .seq)
  (.cond (.t 43) .skip
  (.exit 0)))
  (.seq (.block 1 (.region [⟨some 46, .move (.t 8), none, []⟩,
    ⟨some 47, .move (.t 8), none, []⟩,
    ⟨some 48, .nilCheck (.t 47), none, []⟩,
    ⟨some 49, .fieldAddr 18 (.t 48), none, []⟩,
    ⟨some 50, .load1 (.t 49), none, []⟩,
    ⟨some 51, .move (.t 9), none, []⟩,
    ⟨some 52, .buildSlice 3 1 1 [(.int .i64 0)] [(0, 1, (.t 51))], none, []⟩,
    ⟨some 53, .append 3 1 8 [(.int .i64 0)] (.t 50) (.t 52), none, []⟩,
    ⟨some 54, .nilCheck (.t 46), none, []⟩,
    ⟨some 55, .fieldAddr 18 (.t 54), none, []⟩,
    ⟨none, .store 1 (.t 55) (.t 53), none, []⟩] .seq))
  (.region [⟨some 44, .move (.t 9), none, []⟩,
    ⟨some 45, .bin .add (.t 44) (.c (.int .i64 1)), none, []⟩,
    ⟨some 9, .move (.t 45), none, []⟩] .seq))))))
  (.seq (.seq (.region [⟨some 56, .fieldAddr 1 (.t 3), none, []⟩,
    ⟨some 57, .load1 (.t 56), none, []⟩,
    ⟨some 58, .callF 92 [(.t 57)], none, []⟩,
    ⟨some 59, .move (.c (.int .i64 0)), none, []⟩] .seq)
  (.block 2 (.loop (.seq (.region [⟨some 60, .bin .lss (.t 59) (.c (.int .i64 8)), none, []⟩] .seq)
  (.seq (.cond (.t 60) .skip
  (.exit 2))
  (.seq (.block 3 (.seq (.region [⟨some 61, .move (.t 59), none, []⟩,
    ⟨some 62, .index 8 1 false (.t 58) (.t 59), none, []⟩,
    ⟨some 10, .move (.t 61), none, []⟩,
    ⟨some 11, .move (.t 62), none, []⟩] .seq)
  (.region [⟨some 63, .move (.t 8), none, []⟩,
    ⟨some 64, .move (.t 10), none, []⟩,
    ⟨some 65, .move (.t 11), none, []⟩,
    ⟨some 66, .build [(.int .i64 0), (.int .i64 0)] [(1, 1, (.t 65))], none, []⟩,
    ⟨some 67, .buildSlice 178 1 2 [(.int .i64 0), (.int .i64 0)] [(0, 2, (.t 66))], none, []⟩,
    ⟨some 68, .nilCheck (.t 63), none, []⟩,
    ⟨some 69, .fieldAddr 10 (.t 68), none, []⟩,
    ⟨some 70, .indexAddrA 8 1 (.t 69) (.t 64), none, []⟩,
    ⟨none, .store 1 (.t 70) (.t 67), none, []⟩] .seq)))
  (.region [⟨some 71, .bin .add (.t 59) (.c (.int .i64 1)), none, []⟩,
    ⟨some 59, .move (.t 71), none, []⟩] .seq)))))))
  (.seq (.region [⟨some 72, .move (.t 8), none, []⟩,
    ⟨some 4, .move (.t 72), none, []⟩,
    ⟨some 5, .move (.c (.int .i64 0)), none, []⟩] .seq)
  .ret))))))))⟩
/-- anabranch/oper.Class -/
def BF49 : AFunc := ⟨16, [.tmp 2], (.seq (.region [⟨some 1, .box 84 (.t 0), none, []⟩,
    ⟨some 2, .move (.c (.int .i64 0)), none, []⟩] .seq)
  (.seq (.seq (.region [⟨some 3, .fieldAddr 0 (.t 1), none, []⟩,
    ⟨some 4, .load1 (.t 3), none, []⟩,
    ⟨some 5, .bin .lss (.t 4) (.c (.int .i64 0)), none, []⟩,
    ⟨some 6, .move (.t 5), none, []⟩,
    ⟨some 7, .fieldAddr 0 (.t 1), some (6, false), []⟩,
    ⟨some 8, .load1 (.t 7), some (6, false), []⟩,
    ⟨some 9, .bin .gtr (.t 8) (.c (.int .i64 7)), some (6, false), []⟩,
    ⟨some 10, .pick (.t 6) (.c (.bool true)) (.t 9), none, []⟩] .seq)
  (.cond (.t 10) (.seq (.region [⟨some 2, .move (.c (.int .i64 (-1))), none, []⟩] .seq)
  .ret)
  .skip))
  (.seq (.region [⟨some 11, .callF 93 [], none, []⟩,
    ⟨some 12, .fieldAddr 0 (.t 1), none, []⟩,
    ⟨some 13, .load1 (.t 12), none, [0, 6]⟩,
    ⟨some 14, .index 8 3 true (.t 11) (.t 13), none, []⟩,
    ⟨some 15, .field 0 1 false (.t 14), none, []⟩,
    ⟨some 2, .move (.t 15), none, []⟩] .sink)
  .ret)))⟩
/-- (*anabranch/table.Table).Ver -/
def BF50 : AFunc := ⟨25, [.tmp 6], (.seq (.region [⟨some 6, .move (.c (.int .i64 0)), none, []⟩] .seq)
  (.seq (.seq (.region [⟨some 9, .move (.t 0), none, []⟩,
    ⟨some 10, .move (.t 1), none, []⟩,
    ⟨some 11, .callF 94 [(.t 9), (.t 10)], none, []⟩,
    ⟨some 12, .len .sl (.t 11), none, []⟩,
    ⟨some 13, .move (.c (.int .i64 0)), none, []⟩] .seq)
  (.block 0 (.loop (.seq (.region [⟨some 14, .bin .lss (.t 13) (.t 12), none, []⟩] .seq)
  (.seq (.cond (.t 14) .skip
  (.exit 0))
  (.seq (.block 1 (.seq (.region [⟨some 15, .indexAddrS 10 (.t 11) (.t 13), none, []⟩,
    ⟨some 16, .loadN 10 (.t 15), none, []⟩,
    ⟨some 8, .alloc 86 [(.int .i64 0), (.int .i64 0), .sl0, (.int .i64 0), (.int .i64 0), (.int .i64 0), (.int .i64 0), (.int .i64 0), (.int .i64 0), (.int .i64 0)], none, []⟩,
    ⟨none, .store 10 (.t 8) (.t 16), none, []⟩] .seq)
  (.seq (.region [⟨some 17, .fieldAddr 1 (.t 8), none, []⟩,
    ⟨some 18, .load1 (.t 17), none, []⟩,
    ⟨some 19, .move (.t 2), none, []⟩,
    ⟨some 20, .bin .leq (.t 18) (.t 19), none, []⟩] .seq)
  (.cond (.t 20) (.region [⟨some 21, .move (.t 6), none, []⟩,
    ⟨some 22, .bin .add (.t 21) (.c (.int .i64 1)), none, []⟩,
    ⟨some 6, .move (.t 22), none, []⟩] .seq)
  .skip))))
  (.region [⟨some 23, .bin .add (.t 13) (.c (.int .i64 1)), none, []⟩,
    ⟨some 13, .move (.t 23), none, []⟩] .seq)))))))
  (.seq (.region [⟨some 24, .move (.t 6), none, []⟩,
    ⟨some 6, .move (.t 24), none, []⟩] .seq)
  .ret)))⟩
/-- anabranch/acc.One -/
def BF51 : AFunc := ⟨10, [.cellN 2 5], (.seq (.region [⟨some 2, .alloc 26 [(.int .i64 0), (.int .i64 0), (.int .u64 0), (.int .i64 0), (.int .i64 0)], none, []⟩] .seq)
  (.seq (.region [⟨some 3, .move (.t 0), none, []⟩,
    ⟨some 4, .bin .shr (.t 3) (.c (.int .u64 63)), none, []⟩,
    ⟨some 5, .move (.t 0), none, []⟩,
    ⟨some 6, .conv .u64 (.t 5), none, []⟩,
    ⟨some 7, .move (.t 0), none, []⟩,
    ⟨some 8, .move (.t 0), none, []⟩,
    ⟨some 9, .build [(.int .i64 0), (.int .i64 0), (.int .u64 0), (.int .i64 0), (.int .i64 0)] [(0, 1, (.c (.int .i64 1))), (1, 1, (.t 4)), (2, 1, (.t 6)), (3, 1, (.t 7)), (4, 1, (.t 8))], none, []⟩,
    ⟨none, .store 5 (.t 2) (.t 9), none, []⟩] .seq)
  .ret))⟩
/-- (*anabranch/part.Part).join -/
def BF52 : AFunc := ⟨35, [.cell1 6], (.seq (.region [⟨some 4, .box 28 (.t 1), none, []⟩,
    ⟨some 6, .alloc 31 [.sl0], none, []⟩] .seq)
  (.seq (.seq (.region [⟨some 8, .move (.t 0), none, []⟩,
    ⟨some 9, .loadN 10 (.t 4), none, []⟩,
    ⟨some 10, .move (.t 2), none, []⟩,
    ⟨some 11, .callF 95 [(.t 8), (.t 9), (.t 10)], none, []⟩] .seq)
  (.block 0 (.rangeFunc (.t 11) [12] (.region [⟨some 7, .alloc 28 [(.int .i64 0), (.int .u32 0), (.int .i64 0), (.int .i64 0), (.int .u8 0), (.int .i64 0), (.int .i64 0), (.int .u64 0), (.int .i64 0), (.int .i64 0)], none, []⟩,
    ⟨none, .store 10 (.t 7) (.t 12), none, []⟩] .seq)
  (.block 1 (.region [⟨some 13, .load1 (.t 6), none, []⟩,
    ⟨some 14, .fieldAddr 1 (.t 4), none, []⟩,
    ⟨some 15, .load1 (.t 14), none, []⟩,
    ⟨some 16, .fieldAddr 2 (.t 7), none, []⟩,
    ⟨some 17, .load1 (.t 16), none, []⟩,
    ⟨some 18, .fieldAddr 2 (.t 4), none, []⟩,
    ⟨some 19, .load1 (.t 18), none, []⟩,
    ⟨some 20, .maxmin true [(.t 17), (.t 19)], none, []⟩,
    ⟨some 21, .fieldAddr 5 (.t 7), none, []⟩,
    ⟨some 22, .fieldAddr 3 (.t 21), none, []⟩,
    ⟨some 23, .load1 (.t 22), none, []⟩,
    ⟨some 24, .fieldAddr 5 (.t 4), none, []⟩,
    ⟨some 25, .fieldAddr 3 (.t 24), none, []⟩,
    ⟨some 26, .load1 (.t 25), none, []⟩,
    ⟨some 27, .bin .add (.t 23) (.t 26), none, []⟩,
    ⟨some 28, .build [(.int .u32 0), (.int .i64 0), (.int .i64 0), (.int .u8 0), (.bool false), (.bool false)] [(0, 1, (.t 15)), (1, 1, (.t 20)), (2, 1, (.t 27))], none, []⟩,
    ⟨some 29, .buildSlice 43 1 6 [(.int .u32 0), (.int .i64 0), (.int .i64 0), (.int .u8 0), (.bool false), (.bool false)] [(0, 6, (.t 28))], none, []⟩,
    ⟨some 30, .append 43 6 32 [(.int .u32 0), (.int .i64 0), (.int .i64 0), (.int .u8 0), (.bool false), (.bool false)] (.t 13) (.t 29), none, []⟩,
    ⟨none, .store 1 (.t 6) (.t 30), none, []⟩] .seq)))))
  (.seq (.region [⟨some 31, .move (.t 0), none, []⟩,
    ⟨some 32, .loadN 10 (.t 4), none, []⟩,
    ⟨some 33, .callF 96 [(.t 31), (.t 32)], none, []⟩] .seq)
  (.seq (.region [⟨some 34, .load1 (.t 6), none, []⟩,
    ⟨none, .store 1 (.t 6) (.t 34), none, []⟩] .seq)
  .ret))))⟩
/-- (*anabranch/part.Part).lay -/
def BF53 : AFunc := ⟨69, [], (.seq (.region [⟨some 3, .box 28 (.t 1), none, []⟩] .seq)
  (.seq (.region [⟨some 11, .move (.t 0), none, []⟩,
    ⟨some 12, .nilCheck (.t 11), none, []⟩,
    ⟨some 13, .fieldAddr 0 (.t 12), none, []⟩,
    ⟨some 14, .load1 (.t 13), none, [10]⟩,
    ⟨some 15, .move (.t 0), none, []⟩,
    ⟨some 16, .nilCheck (.t 15), none, []⟩,
    ⟨some 17, .fieldAddr 1 (.t 16), none, []⟩,
    ⟨some 18, .load1 (.t 17), none, [10]⟩,
    ⟨some 19, .fieldAddr 0 (.t 3), none, []⟩,
    ⟨some 20, .load1 (.t 19), none, [10]⟩,
    ⟨some 21, .callF 45 [(.t 14), (.t 18), (.t 20)], none, []⟩,
    ⟨some 10, .move (.t 21), none, []⟩,
    ⟨some 22, .extract (.t 10) 0, none, []⟩,
    ⟨some 23, .extract (.t 10) 1, none, []⟩,
    ⟨some 4, .alloc 84 [(.int .i64 0), (.int .i64 0), (.int .i64 0), (.int .i64 0)], none, []⟩,
    ⟨none, .store 4 (.t 4) (.t 22), none, []⟩,
    ⟨some 5, .move (.t 23), none, []⟩] .sink)
  (.seq (.region [⟨some 24, .mkFunc 97 [] [(.t 3), (.t 4)], none, []⟩,
    ⟨some 6, .move (.t 24), none, []⟩] .seq)
  (.seq (.block 0 (.loop (.block 1 (.seq (.region [⟨some 25, .move (.t 0), none, []⟩,
    ⟨some 26, .nilCheck (.t 25), none, []⟩,
    ⟨some 27, .fieldAddr 3 (.t 26), none, []⟩,
    ⟨some 28, .load1 (.t 27), none, [5, 8]⟩,
    ⟨some 29, .loadN 10 (.t 3), none, [5]⟩,
    ⟨some 30, .callF 82 [(.t 29)], none, []⟩,
    ⟨some 31, .lookup [(.i .i64), (.i .u32)] true .sl0 (.t 28) (.t 30) false, none, [8]⟩,
    ⟨some 32, .move (.t 6), none, []⟩,
    ⟨some 33, .callF 100 [(.t 31), (.t 32)], none, []⟩,
    ⟨some 7, .move (.t 33), none, []⟩] .sink)
  (.seq (.seq (.region [⟨some 34, .move (.t 7), none, []⟩,
    ⟨some 35, .bin .lss (.t 34) (.c (.int .i64 0)), none, []⟩] .seq)
  (.cond (.t 35) (.exit 0)
  .skip))
  (.seq (.region [⟨some 36, .move (.t 0), none, []⟩,
    ⟨some 37, .nilCheck (.t 36), none, []⟩,
    ⟨some 38, .fieldAddr 3 (.t 37), none, []⟩,
    ⟨some 39, .load1 (.t 38), none, [5, 11]⟩,
    ⟨some 40, .loadN 10 (.t 3), none, [5]⟩,
    ⟨some 41, .callF 82 [(.t 40)], none, []⟩,
    ⟨some 42, .lookup [(.i .i64), (.i .u32)] true .sl0 (.t 39) (.t 41) false, none, [11]⟩,
    ⟨some 43, .move (.t 7), none, []⟩,
    ⟨some 44, .indexAddrS 10 (.t 42) (.t 43), none, []⟩,
    ⟨some 45, .loadN 10 (.t 44), none, [11]⟩,
    ⟨some 8, .alloc 28 [(.int .i64 0), (.int .u32 0), (.int .i64 0), (.int .i64 0), (.int .u8 0), (.int .i64 0), (.int .i64 0), (.int .u64 0), (.int .i64 0), (.int .i64 0)], none, []⟩,
    ⟨none, .store 10 (.t 8) (.t 45), none, []⟩] .sink)
  (.seq (.region [⟨some 46, .move (.t 0), none, []⟩,
    ⟨some 47, .loadN 10 (.t 8), none, []⟩,
    ⟨some 48, .callF 43 [(.t 46), (.t 47)], none, []⟩] .seq)
  (.seq (.region [⟨some 49, .loadN 10 (.t 8), none, [1]⟩,
    ⟨some 50, .callF 98 [(.t 49)], none, []⟩,
    ⟨some 51, .loadN 10 (.t 3), none, [1, 3]⟩,
    ⟨some 52, .callF 98 [(.t 51)], none, []⟩,
    ⟨some 53, .callF 101 [(.t 50), (.t 52)], none, []⟩,
    ⟨some 9, .alloc 96 [(.int .i64 0), (.int .i64 0)], none, []⟩,
    ⟨none, .store 2 (.t 9) (.t 53), none, []⟩] .sink)
  (.seq (.region [⟨some 54, .indexAddrA 2 1 (.t 9) (.c (.int .i64 0)), none, []⟩,
    ⟨some 55, .load1 (.t 54), none, [5]⟩,
    ⟨some 56, .indexAddrA 2 1 (.t 9) (.c (.int .i64 1)), none, []⟩,
    ⟨some 57, .load1 (.t 56), none, [5, 7]⟩,
    ⟨some 58, .fieldAddr 2 (.t 3), none, []⟩,
    ⟨none, .store 1 (.t 58) (.t 55), none, []⟩,
    ⟨some 59, .fieldAddr 3 (.t 3), none, []⟩,
    ⟨none, .store 1 (.t 59) (.t 57), none, []⟩] .sink)
  (.region [⟨some 60, .fieldAddr 5 (.t 8), none, []⟩,
    ⟨some 61, .loadN 5 (.t 60), none, []⟩,
    ⟨some 62, .fieldAddr 5 (.t 3), none, []⟩,
    ⟨some 63, .loadN 5 (.t 62), none, []⟩,
    ⟨some 64, .callF 102 [(.t 61), (.t 63)], none, []⟩,
    ⟨some 65, .fieldAddr 5 (.t 3), none, []⟩,
    ⟨none, .store 5 (.t 65) (.t 64), none, []⟩] .seq))))))))))
  (.region [⟨some 66, .move (.t 0), none, []⟩,
    ⟨some 67, .loadN 10 (.t 3), none, []⟩,
    ⟨some 68, .callF 96 [(.t 66), (.t 67)], none, []⟩] .seq)))))⟩
/-- slices.SortStableFunc[[]anabranch/api.Entry,anabranch/api.Entry] -/
def BF54 : AFunc := ⟨9, [], (.region [⟨some 4, .move (.t 0), none, []⟩,
    ⟨some 5, .move (.t 0), none, []⟩,
    ⟨some 6, .len .sl (.t 5), none, []⟩,
    ⟨some 7, .move (.t 1), none, []⟩,
    ⟨some 8, .callF 103 [(.t 4), (.t 6), (.t 7)], none, []⟩] .seq)⟩
/-- (*anabranch/table.Table).Add -/
def BF55 : AFunc := ⟨118, [.tmp 6], (.seq (.region [⟨some 4, .box 86 (.t 1), none, []⟩,
    ⟨some 6, .move (.c (.int .i64 0)), none, []⟩] .seq)
  (.seq (.seq (.region [⟨some 10, .move (.t 0), none, []⟩,
    ⟨some 11, .loadN 10 (.t 4), none, []⟩,
    ⟨some 12, .move (.t 2), none, []⟩,
    ⟨some 13, .callF 104 [(.t 10), (.t 11), (.t 12)], none, []⟩,
    ⟨some 7, .move (.t 13), none, []⟩] .seq)
  (.seq (.region [⟨some 14, .move (.t 7), none, []⟩,
    ⟨some 15, .bin .neq (.t 14) (.c (.int .i64 0)), none, []⟩] .seq)
  (.cond (.t 15) (.seq (.region [⟨some 16, .move (.t 7), none, []⟩,
    ⟨some 6, .move (.t 16), none, []⟩] .seq)
  .ret)
  .skip)))
  (.seq (.region [⟨some 17, .fieldAddr 2 (.t 4), none, []⟩,
    ⟨some 18, .load1 (.t 17), none, []⟩,
    ⟨some 19, .callF 105 [(.t 18)], none, []⟩,
    ⟨some 20, .fieldAddr 2 (.t 4), none, []⟩,
    ⟨none, .store 1 (.t 20) (.t 19), none, []⟩] .seq)
  (.seq (.region [⟨some 21, .move (.t 0), none, []⟩,
    ⟨some 22, .move (.t 0), none, []⟩,
    ⟨some 23, .nilCheck (.t 22), none, []⟩,
    ⟨some 24, .fieldAddr 9 (.t 23), none, []⟩,
    ⟨some 25, .load1 (.t 24), none, [7]⟩,
    ⟨some 26, .loadN 10 (.t 4), none, [7]⟩,
    ⟨some 27, .buildSlice 86 1 10 [(.int .i64 0), (.int .i64 0), .sl0, (.int .i64 0), (.int .i64 0), (.int .i64 0), (.int .i64 0), (.int .i64 0), (.int .i64 0), (.int .i64 0)] [(0, 10, (.t 26))], none, []⟩,
    ⟨some 28, .append 86 10 96 [(.int .i64 0), (.int .i64 0), .sl0, (.int .i64 0), (.int .i64 0), (.int .i64 0), (.int .i64 0), (.int .i64 0), (.int .i64 0), (.int .i64 0)] (.t 25) (.t 27), none, []⟩,
    ⟨some 29, .nilCheck (.t 21), none, []⟩,
    ⟨some 30, .fieldAddr 9 (.t 29), none, []⟩,
    ⟨none, .store 1 (.t 30) (.t 28), none, []⟩] .sink)
  (.seq (.seq (.region [⟨some 31, .fieldAddr 0 (.t 4), none, []⟩,
    ⟨some 32, .load1 (.t 31), none, []⟩] .seq)
  (.block 0 (.seq (.region [⟨some 34, .bin .eql (.t 32) (.c (.int .i64 0)), none, []⟩,
    ⟨some 33, .move (.t 34), none, []⟩] .seq)
  (.cond (.t 33) (.region [⟨some 35, .move (.t 0), none, []⟩,
    ⟨some 36, .fieldAddr 1 (.t 4), none, []⟩,
    ⟨some 37, .load1 (.t 36), none, []⟩,
    ⟨some 38, .fieldAddr 2 (.t 4), none, []⟩,
    ⟨some 39, .load1 (.t 38), none, []⟩,
    ⟨some 40, .fieldAddr 3 (.t 4), none, []⟩,
    ⟨some 41, .load1 (.t 40), none, []⟩,
    ⟨some 42, .buildSlice 3 1 1 [(.int .i64 0)] [(0, 1, (.t 41))], none, []⟩,
    ⟨some 43, .callF 106 [(.t 35), (.t 37), (.t 39), (.t 42)], none, []⟩] .seq)
  (.seq (.region [⟨some 45, .bin .eql (.t 32) (.c (.int .i64 1)), none, []⟩,
    ⟨some 44, .move (.t 45), none, []⟩] .seq)
  (.cond (.t 44) (.seq (.region [⟨some 46, .move (.t 0), none, []⟩,
    ⟨some 47, .move (.t 0), none, []⟩,
    ⟨some 48, .nilCheck (.t 47), none, []⟩,
    ⟨some 49, .fieldAddr 18 (.t 48), none, []⟩,
    ⟨some 50, .load1 (.t 49), none, [5]⟩,
    ⟨some 51, .callF 105 [(.t 50)], none, []⟩,
    ⟨some 52, .fieldAddr 3 (.t 4), none, []⟩,
    ⟨some 53, .load1 (.t 52), none, [5, 9]⟩,
    ⟨some 54, .buildSlice 3 1 1 [(.int .i64 0)] [(0, 1, (.t 53))], none, []⟩,
    ⟨some 55, .append 3 1 8 [(.int .i64 0)] (.t 51) (.t 54), none, []⟩,
    ⟨some 56, .nilCheck (.t 46), none, []⟩,
    ⟨some 57, .fieldAddr 18 (.t 56), none, []⟩,
    ⟨none, .store 1 (.t 57) (.t 55), none, []⟩] .sink)
  (.region [⟨some 58, .move (.t 0), none, []⟩,
    ⟨some 59, .nilCheck (.t 58), none, []⟩,
    ⟨some 60, .fieldAddr 18 (.t 59), none, []⟩,
    ⟨some 61, .load1 (.t 60), none, []⟩,
    ⟨some 62, .callF 107 [(.t 61)], none, []⟩] .seq))
  (.seq (.region [⟨some 64, .bin .eql (.t 32) (.c (.int .i64 2)), none, []⟩,
    ⟨some 63, .move (.t 64), none, []⟩] .seq)
  (.cond (.t 63) (.seq (.region [⟨some 65, .move (.t 0), none, []⟩,
    ⟨some 66, .move (.t 0), none, []⟩,
    ⟨some 67, .nilCheck (.t 66), none, []⟩,
    ⟨some 68, .fieldAddr 18 (.t 67), none, []⟩,
    ⟨some 69, .load1 (.t 68), none, []⟩,
    ⟨some 70, .callF 105 [(.t 69)], none, []⟩,
    ⟨some 71, .mkFunc 109 [] [(.t 4)], none, []⟩,
    ⟨some 72, .callF 108 [(.t 70), (.t 71)], none, []⟩,
    ⟨some 73, .nilCheck (.t 65), none, []⟩,
    ⟨some 74, .fieldAddr 18 (.t 73), none, []⟩,
    ⟨none, .store 1 (.t 74) (.t 72), none, []⟩] .seq)
  (.seq (.region [⟨some 8, .move (.c .sl0), none, []⟩] .seq)
  (.seq (.seq (.region [⟨some 75, .move (.c (.int .i64 0)), none, []⟩] .seq)
  (.block 1 (.loop (.seq (.region [⟨some 76, .bin .lss (.t 75) (.c (.int .i64 8)), none, []⟩] .seq)
  (.seq (.cond (.t 76) .skip
  (.exit 1))
  (.seq (.block 2 (.seq (.region [⟨some 77, .move (.t 75), none, []⟩,
    ⟨some 9, .move (.t 77), none, []⟩] .seq)
  (.seq (.region [⟨some 78, .move (.t 0), none, []⟩,
    ⟨some 79, .move (.t 9), none, []⟩,
    ⟨some 80, .callF 110 [(.t 78), (.t 79)], none, []⟩,
    ⟨some 81, .fieldAddr 3 (.t 4), none, []⟩,
    ⟨some 82, .load1 (.t 81), none, [2, 6]⟩,
    ⟨some 83, .bin .eql (.t 80) (.t 82), none, []⟩] .sink)
  (.cond (.t 83) (.region [⟨some 84, .move (.t 8), none, []⟩,
    ⟨some 85, .move (.t 9), none, []⟩,
    ⟨some 86, .buildSlice 3 1 1 [(.int .i64 0)] [(0, 1, (.t 85))], none, []⟩,
    ⟨some 87, .append 3 1 8 [(.int .i64 0)] (.t 84) (.t 86), none, []⟩,
    ⟨some 8, .move (.t 87), none, []⟩] .seq)
  .skip))))
  (.region [⟨some 88, .bin .add (.t 75) (.c (.int .i64 1)), none, []⟩,
    ⟨some 75, .move (.t 88), none, []⟩] .seq)))))))
  (.region [⟨some 89, .move (.t 0), none, []⟩,
    ⟨some 90, .fieldAddr 1 (.t 4), none, []⟩,
    ⟨some 91, .load1 (.t 90), none, [8]⟩,
    ⟨some 92, .move (.t 8), none, []⟩,
    ⟨some 93, .move (.t 0), none, []⟩,
    ⟨some 94, .nilCheck (.t 93), none, []⟩,
    ⟨some 95, .fieldAddr 18 (.t 94), none, []⟩,
    ⟨some 96, .load1 (.t 95), none, [8]⟩,
    ⟨some 97, .callF 106 [(.t 89), (.t 91), (.t 92), (.t 96)], none, []⟩] .sink))))
  (.seq (.region [⟨some 99, .bin .eql (.t 32) (.c (.int .i64 3)), none, []⟩,
    ⟨some 98, .move (.t 99), none, []⟩] .seq)
  (.cond (.t 98) (.region [⟨some 100, .move (.t 0), none, []⟩,
    ⟨some 101, .nilCheck (.t 100), none, []⟩,
    ⟨some 102, .fieldAddr 20 (.t 101), none, []⟩,
    ⟨some 103, .load1 (.t 102), none, [16, 18]⟩,
    ⟨some 104, .fieldAddr 4 (.t 4), none, []⟩,
    ⟨some 105, .load1 (.t 104), none, [16, 18]⟩,
    ⟨some 106, .move (.t 0), none, []⟩,
    ⟨some 107, .nilCheck (.t 106), none, []⟩,
    ⟨some 108, .fieldAddr 20 (.t 107), none, []⟩,
    ⟨some 109, .load1 (.t 108), none, [16]⟩,
    ⟨some 110, .fieldAddr 4 (.t 4), none, []⟩,
    ⟨some 111, .load1 (.t 110), none, [16]⟩,
    ⟨some 112, .indexAddrS 1 (.t 109) (.t 111), none, []⟩,
    ⟨some 113, .load1 (.t 112), none, [16]⟩,
    ⟨some 114, .loadN 10 (.t 4), none, [16]⟩,
    ⟨some 115, .buildSlice 86 1 10 [(.int .i64 0), (.int .i64 0), .sl0, (.int .i64 0), (.int .i64 0), (.int .i64 0), (.int .i64 0), (.int .i64 0), (.int .i64 0), (.int .i64 0)] [(0, 10, (.t 114))], none, []⟩,
    ⟨some 116, .append 86 10 96 [(.int .i64 0), (.int .i64 0), .sl0, (.int .i64 0), (.int .i64 0), (.int .i64 0), (.int .i64 0), (.int .i64 0), (.int .i64 0), (.int .i64 0)] (.t 113) (.t 115), none, []⟩,
    ⟨some 117, .indexAddrS 1 (.t 103) (.t 105), none, []⟩,
    ⟨none, .store 1 (.t 117) (.t 116), none, []⟩] .sink)
  .skip))))))))))
  (.seq (.region [⟨some 6, .move (.c (.int .i64 0)), none, []⟩] .seq)
  .ret))))))⟩
/-- slices.Clone[[]anabranch/api.Entry,anabranch/api.Entry] -/
def BF56 : AFunc := ⟨8, [.tmp 2], (.seq (.region [⟨some 2, .move (.c .sl0), none, []⟩] .seq)
  (.seq (.seq (.region [⟨some 3, .move (.t 0), none, []⟩,
    ⟨some 4, .isNil .s false (.t 3) (.c .sl0), none, []⟩] .seq)
  (.cond (.t 4) (.seq (.region [⟨some 2, .move (.c .sl0), none, []⟩] .seq)
  .ret)
  .skip))
  (.seq (.region [⟨some 5, .buildSlice 28 0 10 [] [], none, []⟩,
    ⟨some 6, .move (.t 0), none, []⟩,
    ⟨some 7, .append 28 10 80 [(.int .i64 0), (.int .u32 0), (.int .i64 0), (.int .i64 0), (.int .u8 0), (.int .i64 0), (.int .i64 0), (.int .u64 0), (.int .i64 0), (.int .i64 0)] (.t 5) (.t 6), none, []⟩,
    ⟨some 2, .move (.t 7), none, []⟩] .seq)
  .ret)))⟩
/-- anabranch/anabranchref08.Check -/
def BF57 : AFunc := ⟨86, [.tmp 2, .tmp 3], (.seq (.region [⟨some 1, .box 55 (.t 0), none, []⟩,
    ⟨some 2, .move (.c (.int .i64 0)), none, []⟩,
    ⟨some 3, .move (.c (.int .i64 0)), none, []⟩] .seq)
  (.seq (.seq (.region [⟨some 7, .fieldAddr 0 (.t 1), none, []⟩,
    ⟨some 8, .load1 (.t 7), none, []⟩,
    ⟨some 9, .len .sl (.t 8), none, []⟩,
    ⟨some 10, .bin .gtr (.t 9) (.c (.int .i64 4)), none, []⟩,
    ⟨some 11, .move (.t 10), none, []⟩,
    ⟨some 12, .fieldAddr 1 (.t 1), some (11, false), []⟩,
    ⟨some 13, .load1 (.t 12), some (11, false), []⟩,
    ⟨some 14, .len .sl (.t 13), some (11, false), []⟩,
    ⟨some 15, .bin .lss (.t 14) (.c (.int .i64 1)), some (11, false), []⟩,
    ⟨some 16, .pick (.t 11) (.c (.bool true)) (.t 15), none, []⟩,
    ⟨some 17, .move (.t 16), none, []⟩,
    ⟨some 18, .fieldAddr 1 (.t 1), some (17, false), []⟩,
    ⟨some 19, .load1 (.t 18), some (17, false), []⟩,
    ⟨some 20, .len .sl (.t 19), some (17, false), []⟩,
    ⟨some 21, .bin .gtr (.t 20) (.c (.int .i64 2)), some (17, false), []⟩,
    ⟨some 22, .pick (.t 17) (.c (.bool true)) (.t 21), none, []⟩] .seq)
  (.cond (.t 22) (.seq (.region [⟨some 2, .move (.c (.int .i64 (-1))), none, []⟩,
    ⟨some 3, .move (.c (.int .i64 4)), none, []⟩] .seq)
  .ret)
  .skip))
  (.seq (.seq (.region [⟨some 4, .move (.c (.int .i64 0)), none, []⟩] .seq)
  (.block 0 (.loop (.seq (.seq (.region [⟨some 23, .move (.t 4), none, []⟩,
    ⟨some 24, .fieldAddr 1 (.t 1), none, []⟩,
    ⟨some 25, .load1 (.t 24), none, []⟩,
    ⟨some 26, .len .sl (.t 25), none, []⟩,
    ⟨some 27, .bin .lss (.t 23) (.t 26), none, []⟩] .seq)
  (.cond (.t 27) .skip
  (.exit 0)))
  (.seq (.block 1 (.seq (.region [⟨some 30, .fieldAddr 1 (.t 1), none, []⟩,
    ⟨some 31, .load1 (.t 30), none, []⟩,
    ⟨some 32, .move (.t 4), none, []⟩,
    ⟨some 33, .indexAddrS 5 (.t 31) (.t 32), none, []⟩,
    ⟨some 34, .fieldAddr 4 (.t 33), none, []⟩,
    ⟨some 35, .load1 (.t 34), none, []⟩,
    ⟨some 36, .len .sl (.t 35), none, []⟩,
    ⟨some 37, .bin .gtr (.t 36) (.c (.int .i64 4)), none, []⟩] .seq)
  (.cond (.t 37) (.seq (.region [⟨some 2, .move (.c (.int .i64 (-1))), none, []⟩,
    ⟨some 3, .move (.c (.int .i64 4)), none, []⟩] .seq)
  .ret)
  .skip)))
  (.region [⟨some 28, .move (.t 4), none, []⟩,
    ⟨some 29, .bin .add (.t 28) (.c (.int .i64 1)), none, []⟩,
    ⟨some 4, .move (.t 29), none, []⟩] .seq))))))
  (.seq (.seq (.region [⟨some 38, .fieldAddr 2 (.t 1), none, []⟩,
    ⟨some 39, .load1 (.t 38), none, []⟩,
    ⟨some 40, .bin .lss (.t 39) (.c (.int .i64 0)), none, []⟩,
    ⟨some 41, .move (.t 40), none, []⟩,
    ⟨some 42, .fieldAddr 2 (.t 1), some (41, false), []⟩,
    ⟨some 43, .load1 (.t 42), some (41, false), []⟩,
    ⟨some 44, .bin .gtr (.t 43) (.c (.int .i64 1073741824)), some (41, false), []⟩,
    ⟨some 45, .pick (.t 41) (.c (.bool true)) (.t 44), none, []⟩,
    ⟨some 46, .move (.t 45), none, []⟩,
    ⟨some 47, .fieldAddr 3 (.t 1), some (46, false), []⟩,
    ⟨some 48, .load1 (.t 47), some (46, false), []⟩,
    ⟨some 49, .bin .lss (.t 48) (.c (.int .i64 1)), some (46, false), []⟩,
    ⟨some 50, .pick (.t 46) (.c (.bool true)) (.t 49), none, []⟩,
    ⟨some 51, .move (.t 50), none, []⟩,
    ⟨some 52, .fieldAddr 3 (.t 1), some (51, false), []⟩,
    ⟨some 53, .load1 (.t 52), some (51, false), []⟩,
    ⟨some 54, .bin .gtr (.t 53) (.c (.int .i64 1073741824)), some (51, false), []⟩,
    ⟨some 55, .pick (.t 51) (.c (.bool true)) (.t 54), none, []⟩] .seq)
  (.cond (.t 55) (.seq (.region [⟨some 2, .move (.c (.int .i64 (-1))), none, []⟩,
    ⟨some 3, .move (.c (.int .i64 2)), none, []⟩] .seq)
  .ret)
  .skip))
  (.seq (.region [⟨some 56, .loadN 4 (.t 1), none, []⟩,
    ⟨some 57, .callF 111 [(.t 56)], none, []⟩,
    ⟨some 5, .move (.t 57), none, []⟩] .seq)
  (.seq (.seq (.region [⟨some 6, .move (.c (.int .i64 0)), none, []⟩] .seq)
  (.block 2 (.loop (.seq (.seq (.region [⟨some 58, .move (.t 6), none, []⟩,
    ⟨some 59, .move (.t 5), none, []⟩,
    ⟨some 60, .len .sl (.t 59), none, []⟩,
    ⟨some 61, .bin .lss (.t 58) (.t 60), none, []⟩] .seq)
  (.cond (.t 61) .skip
  (.exit 2)))
  (.seq (.block 3 (.seq (.seq (.region [⟨some 64, .move (.t 5), none, []⟩,
    ⟨some 65, .move (.t 6), none, []⟩,
    ⟨some 66, .indexAddrS 6 (.t 64) (.t 65), none, []⟩,
    ⟨some 67, .fieldAddr 0 (.t 66), none, []⟩,
    ⟨some 68, .loadN 4 (.t 67), none, []⟩,
    ⟨some 69, .callF 112 [(.t 68)], none, []⟩,
    ⟨some 70, .un .not (.t 69), none, []⟩] .seq)
  (.cond (.t 70) (.seq (.region [⟨some 71, .move (.t 6), none, []⟩,
    ⟨some 2, .move (.t 71), none, []⟩,
    ⟨some 3, .move (.c (.int .i64 13)), none, []⟩] .seq)
  .ret)
  .skip))
  (.seq (.region [⟨some 72, .move (.t 5), none, []⟩,
    ⟨some 73, .move (.t 6), none, []⟩,
    ⟨some 74, .indexAddrS 6 (.t 72) (.t 73), none, []⟩,
    ⟨some 75, .fieldAddr 0 (.t 74), none, []⟩,
    ⟨some 76, .loadN 4 (.t 75), none, [5]⟩,
    ⟨some 77, .callF 113 [(.t 76)], none, []⟩,
    ⟨some 78, .bin .eql (.t 77) (.c (.int .i64 0)), none, []⟩,
    ⟨some 79, .move (.t 5), none, []⟩,
    ⟨some 80, .move (.t 6), none, []⟩,
    ⟨some 81, .indexAddrS 6 (.t 79) (.t 80), none, []⟩,
    ⟨some 82, .fieldAddr 5 (.t 81), none, []⟩,
    ⟨some 83, .load1 (.t 82), none, [5, 13]⟩,
    ⟨some 84, .eqb false (.t 78) (.t 83), none, []⟩] .sink)
  (.cond (.t 84) (.seq (.region [⟨some 85, .move (.t 6), none, []⟩,
    ⟨some 2, .move (.t 85), none, []⟩,
    ⟨some 3, .move (.c (.int .i64 14)), none, []⟩] .seq)
  .ret)
  .skip))))
  (.region [⟨some 62, .move (.t 6), none, []⟩,
    ⟨some 63, .bin .add (.t 62) (.c (.int .i64 1)), none, []⟩,
    ⟨some 6, .move (.t 63), none, []⟩] .seq))))))
  (.seq (.region [⟨some 2, .move (.c (.int .i64 (-1))), none, []⟩,
    ⟨some 3, .move (.c (.int .i64 0)), none, []⟩] .seq)
  .ret)))))))⟩
/-- anabranch/anabranchref09.Right -/
def BF58 : AFunc := ⟨53, [.tmp 2], (.seq (.region [⟨some 1, .box 57 (.t 0), none, []⟩,
    ⟨some 2, .move (.c (.bool false)), none, []⟩] .seq)
  (.seq (.region [⟨some 3, .fieldAddr 0 (.t 1), none, []⟩,
    ⟨some 4, .load1 (.t 3), none, []⟩,
    ⟨some 5, .bin .geq (.t 4) (.c (.int .i64 1)), none, []⟩,
    ⟨some 6, .move (.t 5), none, []⟩,
    ⟨some 7, .fieldAddr 0 (.t 1), some (6, true), []⟩,
    ⟨some 8, .load1 (.t 7), some (6, true), []⟩,
    ⟨some 9, .bin .leq (.t 8) (.c (.int .i64 3)), some (6, true), []⟩,
    ⟨some 10, .pick (.t 6) (.t 9) (.c (.bool false)), none, []⟩,
    ⟨some 11, .move (.t 10), none, []⟩,
    ⟨some 12, .fieldAddr 1 (.t 1), some (11, true), []⟩,
    ⟨some 13, .load1 (.t 12), some (11, true), []⟩,
    ⟨some 14, .bin .geq (.t 13) (.c (.int .i64 1)), some (11, true), []⟩,
    ⟨some 15, .pick (.t 11) (.t 14) (.c (.bool false)), none, []⟩,
    ⟨some 16, .move (.t 15), none, []⟩,
    ⟨some 17, .fieldAddr 1 (.t 1), some (16, true), []⟩,
    ⟨some 18, .load1 (.t 17), some (16, true), []⟩,
    ⟨some 19, .fieldAddr 0 (.t 1), some (16, true), []⟩,
    ⟨some 20, .load1 (.t 19), some (16, true), []⟩,
    ⟨some 21, .bin .leq (.t 18) (.t 20), some (16, true), []⟩,
    ⟨some 22, .pick (.t 16) (.t 21) (.c (.bool false)), none, []⟩,
    ⟨some 23, .move (.t 22), none, []⟩,
    ⟨some 24, .fieldAddr 2 (.t 1), some (23, true), []⟩,
    ⟨some 25, .load1 (.t 24), some (23, true), []⟩,
    ⟨some 26, .bin .geq (.t 25) (.c (.int .i64 1)), some (23, true), []⟩,
    ⟨some 27, .pick (.t 23) (.t 26) (.c (.bool false)), none, []⟩,
    ⟨some 28, .move (.t 27), none, []⟩,
    ⟨some 29, .fieldAddr 2 (.t 1), some (28, true), []⟩,
    ⟨some 30, .load1 (.t 29), some (28, true), []⟩,
    ⟨some 31, .bin .leq (.t 30) (.c (.int .i64 16)), some (28, true), []⟩,
    ⟨some 32, .pick (.t 28) (.t 31) (.c (.bool false)), none, []⟩,
    ⟨some 33, .move (.t 32), none, []⟩,
    ⟨some 34, .fieldAddr 3 (.t 1), some (33, true), []⟩,
    ⟨some 35, .load1 (.t 34), some (33, true), []⟩,
    ⟨some 36, .bin .geq (.t 35) (.c (.int .i64 1)), some (33, true), []⟩,
    ⟨some 37, .pick (.t 33) (.t 36) (.c (.bool false)), none, []⟩,
    ⟨some 38, .move (.t 37), none, []⟩,
    ⟨some 39, .fieldAddr 3 (.t 1), some (38, true), []⟩,
    ⟨some 40, .load1 (.t 39), some (38, true), []⟩,
    ⟨some 41, .bin .leq (.t 40) (.c (.int .i64 8)), some (38, true), []⟩,
    ⟨some 42, .pick (.t 38) (.t 41) (.c (.bool false)), none, []⟩,
    ⟨some 43, .move (.t 42), none, []⟩,
    ⟨some 44, .fieldAddr 4 (.t 1), some (43, true), []⟩,
    ⟨some 45, .load1 (.t 44), some (43, true), []⟩,
    ⟨some 46, .bin .geq (.t 45) (.c (.int .i64 4)), some (43, true), []⟩,
    ⟨some 47, .pick (.t 43) (.t 46) (.c (.bool false)), none, []⟩,
    ⟨some 48, .move (.t 47), none, []⟩,
    ⟨some 49, .fieldAddr 4 (.t 1), some (48, true), []⟩,
    ⟨some 50, .load1 (.t 49), some (48, true), []⟩,
    ⟨some 51, .bin .leq (.t 50) (.c (.int .i64 64)), some (48, true), []⟩,
    ⟨some 52, .pick (.t 48) (.t 51) (.c (.bool false)), none, []⟩,
    ⟨some 2, .move (.t 52), none, []⟩] .seq)
  .ret))⟩
/-- (*anabranch/table.Table).Next -/
def BF76 : AFunc := ⟨23, [.cellN 6 10, .tmp 7], (.seq (.region [⟨some 6, .alloc 86 [(.int .i64 0), (.int .i64 0), .sl0, (.int .i64 0), (.int .i64 0), (.int .i64 0), (.int .i64 0), (.int .i64 0), (.int .i64 0), (.int .i64 0)], none, []⟩,
    ⟨some 7, .move (.c (.bool false)), none, []⟩] .seq)
  (.seq (.region [⟨some 9, .move (.t 0), none, []⟩,
    ⟨some 10, .move (.t 1), none, []⟩,
    ⟨some 11, .callF 94 [(.t 9), (.t 10)], none, []⟩,
    ⟨some 8, .move (.t 11), none, []⟩] .seq)
  (.seq (.seq (.region [⟨some 12, .move (.t 2), none, []⟩,
    ⟨some 13, .move (.t 8), none, []⟩,
    ⟨some 14, .len .sl (.t 13), none, []⟩,
    ⟨some 15, .bin .sub (.t 14) (.c (.int .i64 1)), none, []⟩,
    ⟨some 16, .callF 86 [(.t 12), (.c (.int .i64 0)), (.t 15)], none, []⟩,
    ⟨some 17, .un .not (.t 16), none, []⟩] .seq)
  (.cond (.t 17) (.seq (.region [⟨some 18, .build [(.int .i64 0), (.int .i64 0), .sl0, (.int .i64 0), (.int .i64 0), (.int .i64 0), (.int .i64 0), (.int .i64 0), (.int .i64 0), (.int .i64 0)] [], none, []⟩,
    ⟨none, .store 10 (.t 6) (.t 18), none, []⟩,
    ⟨some 7, .move (.c (.bool false)), none, []⟩] .seq)
  .ret)
  .skip))
  (.seq (.region [⟨some 19, .move (.t 8), none, []⟩,
    ⟨some 20, .move (.t 2), none, []⟩,
    ⟨some 21, .indexAddrS 10 (.t 19) (.t 20), none, []⟩,
    ⟨some 22, .loadN 10 (.t 21), none, []⟩,
    ⟨none, .store 10 (.t 6) (.t 22), none, []⟩,
    ⟨some 7, .move (.c (.bool true)), none, []⟩] .seq)
  .ret))))⟩
/-- cmp.Or[int] -/
def BF77 : AFunc := ⟨18, [.tmp 2], (.seq (.region [⟨some 2, .move (.c (.int .i64 0)), none, []⟩] .seq)
  (.seq (.region [⟨some 3, .move (.c (.int .i64 0)), none, []⟩] .seq)
  (.seq (.seq (.region [⟨some 6, .move (.t 0), none, []⟩,
    ⟨some 7, .len .sl (.t 6), none, []⟩,
    ⟨some 8, .move (.c (.int .i64 0)), none, []⟩] .seq)
  (.block 0 (.loop (.seq (.region [⟨some 9, .bin .lss (.t 8) (.t 7), none, []⟩] .seq)
  (.seq (.cond (.t 9) .skip
  (.exit 0))
  (.seq (.block 1 (.seq (.region [⟨some 10, .indexAddrS 1 (.t 6) (.t 8), none, []⟩,
    ⟨some 11, .load1 (.t 10), none, []⟩,
    ⟨some 5, .move (.t 11), none, []⟩] .seq)
  (.seq (.region [⟨some 12, .move (.t 5), none, []⟩,
    ⟨some 13, .move (.t 3), none, []⟩,
    ⟨some 14, .bin .neq (.t 12) (.t 13), none, []⟩] .seq)
  (.cond (.t 14) (.seq (.region [⟨some 15, .move (.t 5), none, []⟩,
    ⟨some 2, .move (.t 15), none, []⟩] .seq)
  .ret)
  .skip))))
  (.region [⟨some 16, .bin .add (.t 8) (.c (.int .i64 1)), none, []⟩,
    ⟨some 8, .move (.t 16), none, []⟩] .seq)))))))
  (.seq (.region [⟨some 17, .move (.t 3), none, []⟩,
    ⟨some 2, .move (.t 17), none, []⟩] .seq)
  .ret))))⟩
/-- cmp.isNaN[int64] -/
def BF78 : AFunc := ⟨6, [.tmp 2], (.seq (.region [⟨some 2, .move (.c (.bool false)), none, []⟩] .seq)
  (.seq (.region [⟨some 3, .move (.t 0), none, []⟩,
    ⟨some 4, .move (.t 0), none, []⟩,
    ⟨some 5, .bin .neq (.t 3) (.t 4), none, []⟩,
    ⟨some 2, .move (.t 5), none, []⟩] .seq)
  .ret))⟩
/-- cmp.Compare[int] -/
def BF79 : AFunc := ⟨20, [.tmp 4], (.seq (.region [⟨some 4, .move (.c (.int .i64 0)), none, []⟩] .seq)
  (.seq (.region [⟨some 7, .move (.t 0), none, []⟩,
    ⟨some 8, .callF 137 [(.t 7)], none, []⟩,
    ⟨some 5, .move (.t 8), none, []⟩] .seq)
  (.seq (.region [⟨some 9, .move (.t 1), none, []⟩,
    ⟨some 10, .callF 137 [(.t 9)], none, []⟩,
    ⟨some 6, .move (.t 10), none, []⟩] .seq)
  (.seq (.seq (.region [⟨some 11, .move (.t 5), none, []⟩] .seq)
  (.cond (.t 11) (.seq (.seq (.region [⟨some 12, .move (.t 6), none, []⟩] .seq)
  (.cond (.t 12) (.seq (.region [⟨some 4, .move (.c (.int .i64 0)), none, []⟩] .seq)
  .ret)
  .skip))
  (.seq (.region [⟨some 4, .move (.c (.int .i64 (-1))), none, []⟩] .seq)
  .ret))
  .skip))
  (.seq (.seq (.region [⟨some 13, .move (.t 6), none, []⟩] .seq)
  (.cond (.t 13) (.seq (.region [⟨some 4, .move (.c (.int .i64 1)), none, []⟩] .seq)
  .ret)
  .skip))
  (.seq (.seq (.region [⟨some 14, .move (.t 0), none, []⟩,
    ⟨some 15, .move (.t 1), none, []⟩,
    ⟨some 16, .bin .lss (.t 14) (.t 15), none, []⟩] .seq)
  (.cond (.t 16) (.seq (.region [⟨some 4, .move (.c (.int .i64 (-1))), none, []⟩] .seq)
  .ret)
  .skip))
  (.seq (.seq (.region [⟨some 17, .move (.t 0), none, []⟩,
    ⟨some 18, .move (.t 1), none, []⟩,
    ⟨some 19, .bin .gtr (.t 17) (.t 18), none, []⟩] .seq)
  (.cond (.t 19) (.seq (.region [⟨some 4, .move (.c (.int .i64 1)), none, []⟩] .seq)
  .ret)
  .skip))
  (.seq (.region [⟨some 4, .move (.c (.int .i64 0)), none, []⟩] .seq)
  .ret))))))))⟩
/-- cmp.Compare[uint32] -/
def BF80 : AFunc := ⟨20, [.tmp 4], (.seq (.region [⟨some 4, .move (.c (.int .i64 0)), none, []⟩] .seq)
  (.seq (.region [⟨some 7, .move (.t 0), none, []⟩,
    ⟨some 8, .callF 138 [(.t 7)], none, []⟩,
    ⟨some 5, .move (.t 8), none, []⟩] .seq)
  (.seq (.region [⟨some 9, .move (.t 1), none, []⟩,
    ⟨some 10, .callF 138 [(.t 9)], none, []⟩,
    ⟨some 6, .move (.t 10), none, []⟩] .seq)
  (.seq (.seq (.region [⟨some 11, .move (.t 5), none, []⟩] .seq)
  (.cond (.t 11) (.seq (.seq (.region [⟨some 12, .move (.t 6), none, []⟩] .seq)
  (.cond (.t 12) (.seq (.region [⟨some 4, .move (.c (.int .i64 0)), none, []⟩] .seq)
  .ret)
  .skip))
  (.seq (.region [⟨some 4, .move (.c (.int .i64 (-1))), none, []⟩] .seq)
  .ret))
  .skip))
  (.seq (.seq (.region [⟨some 13, .move (.t 6), none, []⟩] .seq)
  (.cond (.t 13) (.seq (.region [⟨some 4, .move (.c (.int .i64 1)), none, []⟩] .seq)
  .ret)
  .skip))
  (.seq (.seq (.region [⟨some 14, .move (.t 0), none, []⟩,
    ⟨some 15, .move (.t 1), none, []⟩,
    ⟨some 16, .bin .lss (.t 14) (.t 15), none, []⟩] .seq)
  (.cond (.t 16) (.seq (.region [⟨some 4, .move (.c (.int .i64 (-1))), none, []⟩] .seq)
  .ret)
  .skip))
  (.seq (.seq (.region [⟨some 17, .move (.t 0), none, []⟩,
    ⟨some 18, .move (.t 1), none, []⟩,
    ⟨some 19, .bin .gtr (.t 17) (.t 18), none, []⟩] .seq)
  (.cond (.t 19) (.seq (.region [⟨some 4, .move (.c (.int .i64 1)), none, []⟩] .seq)
  .ret)
  .skip))
  (.seq (.region [⟨some 4, .move (.c (.int .i64 0)), none, []⟩] .seq)
  .ret))))))))⟩
/-- cmp.Compare[uint8] -/
def BF81 : AFunc := ⟨20, [.tmp 4], (.seq (.region [⟨some 4, .move (.c (.int .i64 0)), none, []⟩] .seq)
  (.seq (.region [⟨some 7, .move (.t 0), none, []⟩,
    ⟨some 8, .callF 139 [(.t 7)], none, []⟩,
    ⟨some 5, .move (.t 8), none, []⟩] .seq)
  (.seq (.region [⟨some 9, .move (.t 1), none, []⟩,
    ⟨some 10, .callF 139 [(.t 9)], none, []⟩,
    ⟨some 6, .move (.t 10), none, []⟩] .seq)
  (.seq (.seq (.region [⟨some 11, .move (.t 5), none, []⟩] .seq)
  (.cond (.t 11) (.seq (.seq (.region [⟨some 12, .move (.t 6), none, []⟩] .seq)
  (.cond (.t 12) (.seq (.region [⟨some 4, .move (.c (.int .i64 0)), none, []⟩] .seq)
  .ret)
  .skip))
  (.seq (.region [⟨some 4, .move (.c (.int .i64 (-1))), none, []⟩] .seq)
  .ret))
  .skip))
  (.seq (.seq (.region [⟨some 13, .move (.t 6), none, []⟩] .seq)
  (.cond (.t 13) (.seq (.region [⟨some 4, .move (.c (.int .i64 1)), none, []⟩] .seq)
  .ret)
  .skip))
  (.seq (.seq (.region [⟨some 14, .move (.t 0), none, []⟩,
    ⟨some 15, .move (.t 1), none, []⟩,
    ⟨some 16, .bin .lss (.t 14) (.t 15), none, []⟩] .seq)
  (.cond (.t 16) (.seq (.region [⟨some 4, .move (.c (.int .i64 (-1))), none, []⟩] .seq)
  .ret)
  .skip))
  (.seq (.seq (.region [⟨some 17, .move (.t 0), none, []⟩,
    ⟨some 18, .move (.t 1), none, []⟩,
    ⟨some 19, .bin .gtr (.t 17) (.t 18), none, []⟩] .seq)
  (.cond (.t 19) (.seq (.region [⟨some 4, .move (.c (.int .i64 1)), none, []⟩] .seq)
  .ret)
  .skip))
  (.seq (.region [⟨some 4, .move (.c (.int .i64 0)), none, []⟩] .seq)
  .ret))))))))⟩
/-- anabranch/part.of -/
def BF82 : AFunc := ⟨8, [.cellN 2 2], (.seq (.region [⟨some 1, .box 28 (.t 0), none, []⟩,
    ⟨some 2, .alloc 107 [(.int .i64 0), (.int .u32 0)], none, []⟩] .seq)
  (.seq (.region [⟨some 3, .fieldAddr 0 (.t 1), none, []⟩,
    ⟨some 4, .load1 (.t 3), none, []⟩,
    ⟨some 5, .fieldAddr 1 (.t 1), none, []⟩,
    ⟨some 6, .load1 (.t 5), none, []⟩,
    ⟨some 7, .build [(.int .i64 0), (.int .u32 0)] [(0, 1, (.t 4)), (1, 1, (.t 6))], none, []⟩,
    ⟨none, .store 2 (.t 2) (.t 7), none, []⟩] .seq)
  .ret))⟩
/-- slices.Index[[]anabranch/api.Entry,anabranch/api.Entry] -/
def BF83 : AFunc := ⟨19, [.tmp 4], (.seq (.region [⟨some 3, .box 28 (.t 1), none, []⟩,
    ⟨some 4, .move (.c (.int .i64 0)), none, []⟩] .seq)
  (.seq (.seq (.region [⟨some 6, .move (.t 0), none, []⟩,
    ⟨some 7, .len .sl (.t 6), none, []⟩,
    ⟨some 8, .move (.c (.int .i64 0)), none, []⟩] .seq)
  (.block 0 (.loop (.seq (.region [⟨some 9, .bin .lss (.t 8) (.t 7), none, []⟩] .seq)
  (.seq (.cond (.t 9) .skip
  (.exit 0))
  (.seq (.block 1 (.seq (.region [⟨some 10, .move (.t 8), none, []⟩,
    ⟨some 5, .move (.t 10), none, []⟩] .seq)
  (.seq (.region [⟨some 11, .loadN 10 (.t 3), none, [6]⟩,
    ⟨some 12, .move (.t 0), none, []⟩,
    ⟨some 13, .move (.t 5), none, []⟩,
    ⟨some 14, .indexAddrS 10 (.t 12) (.t 13), none, []⟩,
    ⟨some 15, .loadN 10 (.t 14), none, [6]⟩,
    ⟨some 16, .eqs [.i, .i, .i, .i, .i, .i, .i, .i, .i, .i] false (.t 11) (.t 15), none, []⟩] .sink)
  (.cond (.t 16) (.seq (.region [⟨some 17, .move (.t 5), none, []⟩,
    ⟨some 4, .move (.t 17), none, []⟩] .seq)
  .ret)
  .skip))))
  (.region [⟨some 18, .bin .add (.t 8) (.c (.int .i64 1)), none, []⟩,
    ⟨some 8, .move (.t 18), none, []⟩] .seq)))))))
  (.seq (.region [⟨some 4, .move (.c (.int .i64 (-1))), none, []⟩] .seq)
  .ret)))⟩
/-- slices.Delete[[]anabranch/api.Entry,anabranch/api.Entry] -/
def BF84 : AFunc := ⟨33, [.tmp 6], (.seq (.region [⟨some 6, .move (.c .sl0), none, []⟩] .seq)
  (.seq (.region [⟨some 8, .move (.t 0), none, []⟩,
    ⟨some 9, .move (.t 1), none, []⟩,
    ⟨some 10, .move (.t 2), none, []⟩,
    ⟨some 11, .move (.t 0), none, []⟩,
    ⟨some 12, .len .sl (.t 11), none, []⟩,
    ⟨some 13, .slice 10 (.t 8) (some (.t 9)) (some (.t 10)) (some (.t 12)), none, []⟩] .seq)
  (.seq (.seq (.region [⟨some 14, .move (.t 1), none, []⟩,
    ⟨some 15, .move (.t 2), none, []⟩,
    ⟨some 16, .bin .eql (.t 14) (.t 15), none, []⟩] .seq)
  (.cond (.t 16) (.seq (.region [⟨some 17, .move (.t 0), none, []⟩,
    ⟨some 6, .move (.t 17), none, []⟩] .seq)
  .ret)
  .skip))
  (.seq (.region [⟨some 18, .move (.t 0), none, []⟩,
    ⟨some 19, .len .sl (.t 18), none, []⟩,
    ⟨some 7, .move (.t 19), none, []⟩] .seq)
  (.seq (.region [⟨some 20, .move (.t 0), none, []⟩,
    ⟨some 21, .move (.t 1), none, []⟩,
    ⟨some 22, .slice 10 (.t 20) none (some (.t 21)) none, none, []⟩,
    ⟨some 23, .move (.t 0), none, []⟩,
    ⟨some 24, .move (.t 2), none, []⟩,
    ⟨some 25, .slice 10 (.t 23) (some (.t 24)) none none, none, []⟩,
    ⟨some 26, .append 28 10 80 [(.int .i64 0), (.int .u32 0), (.int .i64 0), (.int .i64 0), (.int .u8 0), (.int .i64 0), (.int .i64 0), (.int .u64 0), (.int .i64 0), (.int .i64 0)] (.t 22) (.t 25), none, []⟩,
    ⟨some 0, .move (.t 26), none, []⟩] .sink)
  (.seq (.region [⟨some 27, .move (.t 0), none, []⟩,
    ⟨some 28, .move (.t 0), none, []⟩,
    ⟨some 29, .len .sl (.t 28), none, []⟩,
    ⟨some 30, .move (.t 7), none, []⟩,
    ⟨some 31, .slice 10 (.t 27) (some (.t 29)) (some (.t 30)) none, none, []⟩,
    ⟨none, .clear [(.int .i64 0), (.int .u32 0), (.int .i64 0), (.int .i64 0), (.int .u8 0), (.int .i64 0), (.int .i64 0), (.int .u64 0), (.int .i64 0), (.int .i64 0)] (.t 31), none, []⟩] .seq)
  (.seq (.region [⟨some 32, .move (.t 0), none, []⟩,
    ⟨some 6, .move (.t 32), none, []⟩] .seq)
  .ret)))))))⟩
/-- anabranch/win.Of -/
def BF85 : AFunc := ⟨33, [.tmp 4], (.seq (.region [⟨some 2, .box 84 (.t 0), none, []⟩,
    ⟨some 3, .box 2 (.t 1), none, []⟩,
    ⟨some 4, .move (.c .sl0), none, []⟩] .seq)
  (.seq (.seq (.region [⟨some 6, .loadN 4 (.t 2), none, []⟩,
    ⟨some 7, .callF 140 [(.t 6)], none, []⟩,
    ⟨some 8, .bin .neq (.t 7) (.c (.int .i64 0)), none, []⟩,
    ⟨some 9, .move (.t 8), none, []⟩,
    ⟨some 10, .loadN 4 (.t 2), some (9, false), []⟩,
    ⟨some 11, .callF 49 [(.t 10)], some (9, false), []⟩,
    ⟨some 12, .bin .neq (.t 11) (.c (.int .i64 1)), some (9, false), []⟩,
    ⟨some 13, .pick (.t 9) (.c (.bool true)) (.t 12), none, []⟩,
    ⟨some 14, .move (.t 13), none, []⟩,
    ⟨some 15, .load1 (.t 3), some (14, false), []⟩,
    ⟨some 16, .bin .lss (.t 15) (.c (.int .i64 (-1152921504606846976))), some (14, false), []⟩,
    ⟨some 17, .pick (.t 14) (.c (.bool true)) (.t 16), none, []⟩,
    ⟨some 18, .move (.t 17), none, []⟩,
    ⟨some 19, .load1 (.t 3), some (18, false), []⟩,
    ⟨some 20, .bin .gtr (.t 19) (.c (.int .i64 1152921504606846976)), some (18, false), []⟩,
    ⟨some 21, .pick (.t 18) (.c (.bool true)) (.t 20), none, []⟩] .seq)
  (.cond (.t 21) (.seq (.region [⟨some 4, .move (.c .sl0), none, []⟩] .seq)
  .ret)
  .skip))
  (.seq (.region [⟨some 22, .mkMap none, none, []⟩,
    ⟨some 23, .mkFunc 141 [] [(.t 3), (.t 2)], none, []⟩,
    ⟨none, .mapUpdate [(.i .i64)] false (.t 22) (.c (.int .i64 4)) (.t 23), none, []⟩,
    ⟨some 24, .mkFunc 143 [] [(.t 3), (.t 2)], none, []⟩,
    ⟨none, .mapUpdate [(.i .i64)] false (.t 22) (.c (.int .i64 5)) (.t 24), none, []⟩,
    ⟨some 25, .mkFunc 144 [] [(.t 3), (.t 2)], none, []⟩,
    ⟨none, .mapUpdate [(.i .i64)] false (.t 22) (.c (.int .i64 6)) (.t 25), none, []⟩,
    ⟨some 26, .move (.t 22), none, []⟩,
    ⟨some 5, .move (.t 26), none, []⟩] .seq)
  (.seq (.region [⟨some 27, .move (.t 5), none, []⟩,
    ⟨some 28, .fieldAddr 0 (.t 2), none, []⟩,
    ⟨some 29, .load1 (.t 28), none, []⟩,
    ⟨some 30, .lookup [(.i .i64)] false .fn0 (.t 27) (.t 29) false, none, []⟩,
    ⟨some 31, .callV (.t 30) [], none, []⟩,
    ⟨some 32, .callF 146 [(.t 31)], none, []⟩,
    ⟨some 4, .move (.t 32), none, []⟩] .seq)
  .ret))))⟩
/-- anabranch/table.within -/
def BF86 : AFunc := ⟨15, [.tmp 6], (.seq (.region [⟨some 6, .move (.c (.bool false)), none, []⟩] .seq)
  (.seq (.region [⟨some 7, .move (.t 0), none, []⟩,
    ⟨some 8, .move (.t 1), none, []⟩,
    ⟨some 9, .bin .geq (.t 7) (.t 8), none, []⟩,
    ⟨some 10, .move (.t 9), none, []⟩,
    ⟨some 11, .move (.t 0), some (10, true), []⟩,
    ⟨some 12, .move (.t 2), some (10, true), []⟩,
    ⟨some 13, .bin .leq (.t 11) (.t 12), some (10, true), []⟩,
    ⟨some 14, .pick (.t 10) (.t 13) (.c (.bool false)), none, []⟩,
    ⟨some 6, .move (.t 14), none, []⟩] .seq)
  .ret))⟩
/-- anabranch/acc.results -/
def BF87 : AFunc := ⟨2, [.cellN 0 4], (.seq (.region [⟨some 0, .alloc 172 [.fn0, .fn0, .fn0, .fn0], none, []⟩] .seq)
  (.seq (.region [⟨some 1, .build [.fn0, .fn0, .fn0, .fn0] [(0, 1, (.c (.fn 147 [] []))), (2, 1, (.c (.fn 148 [] []))), (3, 1, (.c (.fn 149 [] []))), (1, 1, (.c (.fn 150 [] [])))], none, []⟩,
    ⟨none, .store 4 (.t 0) (.t 1), none, []⟩] .seq)
  .ret))⟩
/-- anabranch/plan.Check -/
def BF88 : AFunc := ⟨43, [.cell1 2, .cell1 3], (.seq (.region [⟨some 1, .box 55 (.t 0), none, []⟩,
    ⟨some 2, .alloc 3 [(.int .i64 0)], none, []⟩,
    ⟨some 3, .alloc 63 [(.int .i64 0)], none, []⟩] .seq)
  (.seq (.block 0 (.seq (.block 3 (.block 2 (.seq (.block 1 (.seq (.seq (.seq (.region [⟨some 8, .loadN 4 (.t 1), none, []⟩,
    ⟨some 9, .callF 151 [(.t 8)], none, []⟩,
    ⟨some 7, .move (.t 9), none, []⟩] .seq)
  (.cond (.t 7) (.exit 1)
  .skip))
  (.seq (.seq (.seq (.region [⟨some 11, .fieldAddr 2 (.t 1), none, []⟩,
    ⟨some 12, .load1 (.t 11), none, []⟩,
    ⟨some 13, .bin .lss (.t 12) (.c (.int .i64 0)), none, []⟩,
    ⟨some 10, .move (.t 13), none, []⟩] .seq)
  (.cond (.t 10) .skip
  (.region [⟨some 14, .fieldAddr 2 (.t 1), none, []⟩,
    ⟨some 15, .load1 (.t 14), none, []⟩,
    ⟨some 16, .bin .gtr (.t 15) (.c (.int .i64 1073741824)), none, []⟩,
    ⟨some 10, .move (.t 16), none, []⟩] .seq)))
  (.cond (.t 10) (.exit 2)
  .skip))
  (.seq (.seq (.region [⟨some 18, .fieldAddr 3 (.t 1), none, []⟩,
    ⟨some 19, .load1 (.t 18), none, []⟩,
    ⟨some 20, .bin .lss (.t 19) (.c (.int .i64 1)), none, []⟩,
    ⟨some 17, .move (.t 20), none, []⟩] .seq)
  (.cond (.t 17) .skip
  (.region [⟨some 21, .fieldAddr 3 (.t 1), none, []⟩,
    ⟨some 22, .load1 (.t 21), none, []⟩,
    ⟨some 23, .bin .gtr (.t 22) (.c (.int .i64 1073741824)), none, []⟩,
    ⟨some 17, .move (.t 23), none, []⟩] .seq)))
  (.cond (.t 17) (.exit 3)
  .skip))))
  (.exit 0)))
  (.seq (.seq (.region [⟨none, .store 1 (.t 2) (.c (.int .i64 (-1))), none, []⟩,
    ⟨none, .store 1 (.t 3) (.c (.int .i64 4)), none, []⟩] .seq)
  .ret)
  (.exit 0)))))
  (.seq (.seq (.region [⟨none, .store 1 (.t 2) (.c (.int .i64 (-1))), none, []⟩,
    ⟨none, .store 1 (.t 3) (.c (.int .i64 2)), none, []⟩] .seq)
  .ret)
  (.exit 0))))
  (.seq (.region [⟨some 4, .alloc 3 [(.int .i64 0)], none, []⟩,
    ⟨none, .store 1 (.t 4) (.c (.int .i64 0)), none, []⟩] .seq)
  (.seq (.seq (.region [⟨some 24, .loadN 4 (.t 1), none, []⟩,
    ⟨some 25, .callF 152 [(.t 24)], none, []⟩] .seq)
  (.block 4 (.rangeFunc (.t 25) [26, 27] (.seq (.region [⟨some 5, .alloc 211 [(.int .i64 0), (.int .i64 0)], none, []⟩,
    ⟨none, .store 2 (.t 5) (.t 26), none, []⟩] .seq)
  (.region [⟨some 6, .alloc 84 [(.int .i64 0), (.int .i64 0), (.int .i64 0), (.int .i64 0)], none, []⟩,
    ⟨none, .store 4 (.t 6) (.t 27), none, []⟩] .seq))
  (.block 5 (.seq (.block 6 (.seq (.region [⟨some 29, .loadN 4 (.t 6), none, []⟩,
    ⟨some 30, .callF 140 [(.t 29)], none, []⟩,
    ⟨some 31, .bin .neq (.t 30) (.c (.int .i64 0)), none, []⟩,
    ⟨some 28, .move (.t 31), none, []⟩] .seq)
  (.cond (.t 28) (.seq (.region [⟨some 32, .load1 (.t 4), none, []⟩,
    ⟨none, .store 1 (.t 2) (.t 32), none, []⟩,
    ⟨none, .store 1 (.t 3) (.c (.int .i64 13)), none, []⟩] .seq)
  .ret)
  (.seq (.region [⟨some 34, .loadN 2 (.t 5), none, [1]⟩,
    ⟨some 35, .callF 120 [(.t 34)], none, []⟩,
    ⟨some 36, .loadN 4 (.t 6), none, [1, 3]⟩,
    ⟨some 37, .callF 49 [(.t 36)], none, []⟩,
    ⟨some 38, .bin .eql (.t 37) (.c (.int .i64 0)), none, []⟩,
    ⟨some 39, .eqb false (.t 35) (.t 38), none, []⟩,
    ⟨some 33, .move (.t 39), none, []⟩] .sink)
  (.cond (.t 33) (.seq (.region [⟨some 40, .load1 (.t 4), none, []⟩,
    ⟨none, .store 1 (.t 2) (.t 40), none, []⟩,
    ⟨none, .store 1 (.t 3) (.c (.int .i64 14)), none, []⟩] .seq)
  .ret)
  .skip)))))
  (.region [⟨some 41, .load1 (.t 4), none, []⟩,
    ⟨some 42, .bin .add (.t 41) (.c (.int .i64 1)), none, []⟩,
    ⟨none, .store 1 (.t 4) (.t 42), none, []⟩] .seq))))))
  (.seq (.region [⟨none, .store 1 (.t 2) (.c (.int .i64 (-1))), none, []⟩,
    ⟨none, .store 1 (.t 3) (.c (.int .i64 0)), none, []⟩] .seq)
  .ret)))))⟩
/-- anabranch/table.right -/
def BF89 : AFunc := ⟨28, [.tmp 2], (.seq (.region [⟨some 1, .box 57 (.t 0), none, []⟩,
    ⟨some 2, .move (.c (.bool false)), none, []⟩] .seq)
  (.seq (.region [⟨some 3, .fieldAddr 0 (.t 1), none, []⟩,
    ⟨some 4, .load1 (.t 3), none, []⟩,
    ⟨some 5, .callF 86 [(.t 4), (.c (.int .i64 1)), (.c (.int .i64 3))], none, []⟩,
    ⟨some 6, .move (.t 5), none, []⟩,
    ⟨some 7, .fieldAddr 1 (.t 1), some (6, true), []⟩,
    ⟨some 8, .load1 (.t 7), some (6, true), []⟩,
    ⟨some 9, .fieldAddr 0 (.t 1), some (6, true), []⟩,
    ⟨some 10, .load1 (.t 9), some (6, true), []⟩,
    ⟨some 11, .callF 86 [(.t 8), (.c (.int .i64 1)), (.t 10)], some (6, true), []⟩,
    ⟨some 12, .pick (.t 6) (.t 11) (.c (.bool false)), none, []⟩,
    ⟨some 13, .move (.t 12), none, []⟩,
    ⟨some 14, .fieldAddr 2 (.t 1), some (13, true), []⟩,
    ⟨some 15, .load1 (.t 14), some (13, true), []⟩,
    ⟨some 16, .callF 86 [(.t 15), (.c (.int .i64 1)), (.c (.int .i64 16))], some (13, true), []⟩,
    ⟨some 17, .pick (.t 13) (.t 16) (.c (.bool false)), none, []⟩,
    ⟨some 18, .move (.t 17), none, []⟩,
    ⟨some 19, .fieldAddr 3 (.t 1), some (18, true), []⟩,
    ⟨some 20, .load1 (.t 19), some (18, true), []⟩,
    ⟨some 21, .callF 86 [(.t 20), (.c (.int .i64 1)), (.c (.int .i64 8))], some (18, true), []⟩,
    ⟨some 22, .pick (.t 18) (.t 21) (.c (.bool false)), none, []⟩,
    ⟨some 23, .move (.t 22), none, []⟩,
    ⟨some 24, .fieldAddr 4 (.t 1), some (23, true), []⟩,
    ⟨some 25, .load1 (.t 24), some (23, true), []⟩,
    ⟨some 26, .callF 86 [(.t 25), (.c (.int .i64 4)), (.c (.int .i64 64))], some (23, true), []⟩,
    ⟨some 27, .pick (.t 23) (.t 26) (.c (.bool false)), none, []⟩,
    ⟨some 2, .move (.t 27), none, []⟩] .seq)
  .ret))⟩
/-- anabranch/table.own -/
def BF90 : AFunc := ⟨32, [.cellN 2 4], (.seq (.region [⟨some 1, .box 55 (.t 0), none, []⟩,
    ⟨some 2, .alloc 55 [.sl0, .sl0, (.int .i64 0), (.int .i64 0)], none, []⟩] .seq)
  (.seq (.region [⟨some 4, .fieldAddr 0 (.t 1), none, []⟩,
    ⟨some 5, .load1 (.t 4), none, []⟩,
    ⟨some 6, .callF 153 [(.t 5)], none, []⟩,
    ⟨some 7, .fieldAddr 0 (.t 1), none, []⟩,
    ⟨none, .store 1 (.t 7) (.t 6), none, []⟩] .seq)
  (.seq (.region [⟨some 8, .fieldAddr 1 (.t 1), none, []⟩,
    ⟨some 9, .load1 (.t 8), none, []⟩,
    ⟨some 10, .callF 154 [(.t 9)], none, []⟩,
    ⟨some 11, .fieldAddr 1 (.t 1), none, []⟩,
    ⟨none, .store 1 (.t 11) (.t 10), none, []⟩] .seq)
  (.seq (.seq (.region [⟨some 12, .fieldAddr 1 (.t 1), none, []⟩,
    ⟨some 13, .load1 (.t 12), none, []⟩,
    ⟨some 14, .len .sl (.t 13), none, []⟩,
    ⟨some 15, .move (.c (.int .i64 0)), none, []⟩] .seq)
  (.block 0 (.loop (.seq (.region [⟨some 16, .bin .lss (.t 15) (.t 14), none, []⟩] .seq)
  (.seq (.cond (.t 16) .skip
  (.exit 0))
  (.seq (.block 1 (.seq (.region [⟨some 17, .move (.t 15), none, []⟩,
    ⟨some 3, .move (.t 17), none, []⟩] .seq)
  (.region [⟨some 18, .fieldAddr 1 (.t 1), none, []⟩,
    ⟨some 19, .load1 (.t 18), none, [9, 12]⟩,
    ⟨some 20, .move (.t 3), none, []⟩,
    ⟨some 21, .fieldAddr 1 (.t 1), none, []⟩,
    ⟨some 22, .load1 (.t 21), none, [9]⟩,
    ⟨some 23, .move (.t 3), none, []⟩,
    ⟨some 24, .indexAddrS 5 (.t 22) (.t 23), none, []⟩,
    ⟨some 25, .fieldAddr 4 (.t 24), none, []⟩,
    ⟨some 26, .load1 (.t 25), none, [9]⟩,
    ⟨some 27, .callF 153 [(.t 26)], none, []⟩,
    ⟨some 28, .indexAddrS 5 (.t 19) (.t 20), none, []⟩,
    ⟨some 29, .fieldAddr 4 (.t 28), none, []⟩,
    ⟨none, .store 1 (.t 29) (.t 27), none, []⟩] .sink)))
  (.region [⟨some 30, .bin .add (.t 15) (.c (.int .i64 1)), none, []⟩,
    ⟨some 15, .move (.t 30), none, []⟩] .seq)))))))
  (.seq (.region [⟨some 31, .loadN 4 (.t 1), none, []⟩,
    ⟨none, .store 4 (.t 2) (.t 31), none, []⟩] .seq)
  .ret)))))⟩
/-- anabranch/plan.Nodes -/
def BF91 : AFunc := ⟨14, [.cell1 2], (.seq (.region [⟨some 1, .box 55 (.t 0), none, []⟩,
    ⟨some 2, .alloc 52 [.sl0], none, []⟩] .seq)
  (.seq (.seq (.region [⟨some 5, .loadN 4 (.t 1), none, []⟩,
    ⟨some 6, .callF 152 [(.t 5)], none, []⟩] .seq)
  (.block 0 (.rangeFunc (.t 6) [7, 8] (.region [⟨some 4, .alloc 84 [(.int .i64 0), (.int .i64 0), (.int .i64 0), (.int .i64 0)], none, []⟩,
    ⟨none, .store 4 (.t 4) (.t 8), none, []⟩] .seq)
  (.block 1 (.region [⟨some 9, .load1 (.t 2), none, []⟩,
    ⟨some 10, .loadN 4 (.t 4), none, []⟩,
    ⟨some 11, .buildSlice 84 1 4 [(.int .i64 0), (.int .i64 0), (.int .i64 0), (.int .i64 0)] [(0, 4, (.t 10))], none, []⟩,
    ⟨some 12, .append 84 4 32 [(.int .i64 0), (.int .i64 0), (.int .i64 0), (.int .i64 0)] (.t 9) (.t 11), none, []⟩,
    ⟨none, .store 1 (.t 2) (.t 12), none, []⟩] .seq)))))
  (.seq (.region [⟨some 13, .load1 (.t 2), none, []⟩,
    ⟨none, .store 1 (.t 2) (.t 13), none, []⟩] .seq)
  .ret)))⟩
/-- anabranch/bin.First -/
def BF92 : AFunc := ⟨26, [.cellN 2 8], (.seq (.region [⟨some 2, .alloc 175 [(.int .i64 0), (.int .i64 0), (.int .i64 0), (.int .i64 0), (.int .i64 0), (.int .i64 0), (.int .i64 0), (.int .i64 0)], none, []⟩] .seq)
  (.seq (.seq (.region [⟨some 6, .move (.t 0), none, []⟩,
    ⟨some 7, .bin .lss (.t 6) (.c (.int .i64 1)), none, []⟩,
    ⟨some 8, .move (.t 7), none, []⟩,
    ⟨some 9, .move (.t 0), some (8, false), []⟩,
    ⟨some 10, .bin .gtr (.t 9) (.c (.int .i64 3)), some (8, false), []⟩,
    ⟨some 11, .pick (.t 8) (.c (.bool true)) (.t 10), none, []⟩] .seq)
  (.cond (.t 11) (.seq (.region [⟨some 12, .loadN 8 (.t 2), none, []⟩,
    ⟨none, .store 8 (.t 2) (.t 12), none, []⟩] .seq)
  .ret)
  .skip))
  (.seq (.region [⟨some 13, .build [(.int .i64 0), (.int .i64 0), (.int .i64 0)] [(0, 1, (.c (.int .i64 1))), (1, 1, (.c (.int .i64 2))), (2, 1, (.c (.int .i64 3)))], none, []⟩,
    ⟨some 3, .alloc 238 [(.int .i64 0), (.int .i64 0), (.int .i64 0)], none, []⟩,
    ⟨none, .store 3 (.t 3) (.t 13), none, []⟩] .seq)
  (.seq (.region [⟨some 4, .alloc 3 [(.int .i64 0)], none, []⟩,
    ⟨none, .store 1 (.t 4) (.c (.int .i64 0)), none, []⟩] .seq)
  (.seq (.seq (.region [⟨some 14, .move (.t 0), none, []⟩,
    ⟨some 15, .sliceArr 3 1 (.t 3) none (some (.t 14)) none, none, []⟩,
    ⟨some 16, .callF 155 [(.t 15)], none, []⟩] .seq)
  (.block 0 (.rangeFunc (.t 16) [17] (.region [⟨some 5, .move (.t 17), none, []⟩] .seq)
  (.block 1 (.seq (.region [⟨some 18, .load1 (.t 4), none, []⟩,
    ⟨some 19, .move (.t 5), none, []⟩,
    ⟨some 20, .indexAddrA 8 1 (.t 2) (.t 18), none, []⟩,
    ⟨none, .store 1 (.t 20) (.t 19), none, []⟩] .seq)
  (.seq (.region [⟨some 21, .load1 (.t 4), none, []⟩,
    ⟨some 22, .bin .add (.t 21) (.c (.int .i64 1)), none, []⟩,
    ⟨none, .store 1 (.t 4) (.t 22), none, []⟩] .seq)
  (.seq (.region [⟨some 23, .load1 (.t 4), none, []⟩,
    ⟨some 24, .bin .eql (.t 23) (.c (.int .i64 8)), none, []⟩] .seq)
  (.cond (.t 24) (.exit 0)
  .skip))))))))
  (.seq (.region [⟨some 25, .loadN 8 (.t 2), none, []⟩,
    ⟨none, .store 8 (.t 2) (.t 25), none, []⟩] .seq)
  .ret))))))⟩
/-- anabranch/oper.kinds -/
def BF93 : AFunc := ⟨10, [.cellN 0 24], (.seq (.region [⟨some 0, .alloc 183 [(.int .i64 0), .fn0, .fn0, (.int .i64 0), .fn0, .fn0, (.int .i64 0), .fn0, .fn0, (.int .i64 0), .fn0, .fn0, (.int .i64 0), .fn0, .fn0, (.int .i64 0), .fn0, .fn0, (.int .i64 0), .fn0, .fn0, (.int .i64 0), .fn0, .fn0], none, []⟩] .seq)
  (.seq (.region [⟨some 1, .build [(.int .i64 0), .fn0, .fn0] [(0, 1, (.c (.int .i64 0))), (1, 1, (.c (.fn 156 [] []))), (2, 1, (.c (.fn 157 [] [])))], none, []⟩,
    ⟨some 2, .build [(.int .i64 0), .fn0, .fn0] [(0, 1, (.c (.int .i64 0))), (1, 1, (.c (.fn 158 [] []))), (2, 1, (.c (.fn 160 [] [])))], none, []⟩,
    ⟨some 3, .build [(.int .i64 0), .fn0, .fn0] [(0, 1, (.c (.int .i64 0))), (1, 1, (.c (.fn 161 [] []))), (2, 1, (.c (.fn 163 [] [])))], none, []⟩,
    ⟨some 4, .build [(.int .i64 0), .fn0, .fn0] [(0, 1, (.c (.int .i64 0))), (1, 1, (.c (.fn 164 [] []))), (2, 1, (.c (.fn 165 [] [])))], none, []⟩,
    ⟨some 5, .build [(.int .i64 0), .fn0, .fn0] [(0, 1, (.c (.int .i64 1))), (1, 1, (.c (.fn 166 [] [])))], none, []⟩,
    ⟨some 6, .build [(.int .i64 0), .fn0, .fn0] [(0, 1, (.c (.int .i64 1))), (1, 1, (.c (.fn 167 [] [])))], none, []⟩,
    ⟨some 7, .build [(.int .i64 0), .fn0, .fn0] [(0, 1, (.c (.int .i64 1))), (1, 1, (.c (.fn 166 [] [])))], none, []⟩,
    ⟨some 8, .build [(.int .i64 0), .fn0, .fn0] [(0, 1, (.c (.int .i64 2))), (1, 1, (.c (.fn 166 [] [])))], none, []⟩,
    ⟨some 9, .build [(.int .i64 0), .fn0, .fn0, (.int .i64 0), .fn0, .fn0, (.int .i64 0), .fn0, .fn0, (.int .i64 0), .fn0, .fn0, (.int .i64 0), .fn0, .fn0, (.int .i64 0), .fn0, .fn0, (.int .i64 0), .fn0, .fn0, (.int .i64 0), .fn0, .fn0] [(0, 3, (.t 1)), (3, 3, (.t 2)), (6, 3, (.t 3)), (9, 3, (.t 4)), (12, 3, (.t 5)), (15, 3, (.t 6)), (18, 3, (.t 7)), (21, 3, (.t 8))], none, []⟩,
    ⟨none, .store 24 (.t 0) (.t 9), none, []⟩] .seq)
  .ret))⟩
/-- (*anabranch/table.Table).after -/
def BF94 : AFunc := ⟨25, [.tmp 4], (.seq (.region [⟨some 4, .move (.c .sl0), none, []⟩] .seq)
  (.seq (.seq (.region [⟨some 5, .move (.t 0), none, []⟩,
    ⟨some 6, .isNil .p false (.t 5) (.c .ptr0), none, []⟩,
    ⟨some 7, .move (.t 6), none, []⟩,
    ⟨some 8, .move (.t 1), some (7, false), []⟩,
    ⟨some 9, .move (.t 0), some (7, false), []⟩,
    ⟨some 10, .nilCheck (.t 9), some (7, false), []⟩,
    ⟨some 11, .fieldAddr 19 (.t 10), some (7, false), []⟩,
    ⟨some 12, .load1 (.t 11), some (7, false), []⟩,
    ⟨some 13, .len .sl (.t 12), some (7, false), []⟩,
    ⟨some 14, .bin .sub (.t 13) (.c (.int .i64 1)), some (7, false), []⟩,
    ⟨some 15, .callF 86 [(.t 8), (.c (.int .i64 0)), (.t 14)], some (7, false), []⟩,
    ⟨some 16, .un .not (.t 15), some (7, false), []⟩,
    ⟨some 17, .pick (.t 7) (.c (.bool true)) (.t 16), none, []⟩] .seq)
  (.cond (.t 17) (.seq (.region [⟨some 4, .move (.c .sl0), none, []⟩] .seq)
  .ret)
  .skip))
  (.seq (.region [⟨some 18, .move (.t 0), none, []⟩,
    ⟨some 19, .nilCheck (.t 18), none, []⟩,
    ⟨some 20, .fieldAddr 20 (.t 19), none, []⟩,
    ⟨some 21, .load1 (.t 20), none, []⟩,
    ⟨some 22, .move (.t 1), none, []⟩,
    ⟨some 23, .indexAddrS 1 (.t 21) (.t 22), none, []⟩,
    ⟨some 24, .load1 (.t 23), none, []⟩,
    ⟨some 4, .move (.t 24), none, []⟩] .seq)
  .ret)))⟩
/-- (*anabranch/part.Part).met -/
def BF95 : AFunc := ⟨24, [.tmp 6], (.seq (.region [⟨some 3, .box 22 (.t 0), none, []⟩,
    ⟨some 4, .box 28 (.t 1), none, []⟩,
    ⟨some 5, .box 2 (.t 2), none, []⟩,
    ⟨some 6, .move (.c .fn0), none, []⟩] .seq)
  (.seq (.region [⟨some 10, .load1 (.t 3), none, [10]⟩,
    ⟨some 11, .nilCheck (.t 10), none, []⟩,
    ⟨some 12, .fieldAddr 0 (.t 11), none, []⟩,
    ⟨some 13, .load1 (.t 12), none, [10]⟩,
    ⟨some 14, .load1 (.t 3), none, [10]⟩,
    ⟨some 15, .nilCheck (.t 14), none, []⟩,
    ⟨some 16, .fieldAddr 1 (.t 15), none, []⟩,
    ⟨some 17, .load1 (.t 16), none, [10]⟩,
    ⟨some 18, .fieldAddr 0 (.t 4), none, []⟩,
    ⟨some 19, .load1 (.t 18), none, [10]⟩,
    ⟨some 20, .callF 45 [(.t 13), (.t 17), (.t 19)], none, []⟩,
    ⟨some 9, .move (.t 20), none, []⟩,
    ⟨some 21, .extract (.t 9) 0, none, []⟩,
    ⟨some 22, .extract (.t 9) 1, none, []⟩,
    ⟨some 7, .alloc 84 [(.int .i64 0), (.int .i64 0), (.int .i64 0), (.int .i64 0)], none, []⟩,
    ⟨none, .store 4 (.t 7) (.t 21), none, []⟩,
    ⟨some 8, .move (.t 22), none, []⟩] .sink)
  (.seq (.region [⟨some 23, .mkFunc 168 [] [(.t 3), (.t 4), (.t 7), (.t 5)], none, []⟩,
    ⟨some 6, .move (.t 23), none, []⟩] .seq)
  .ret)))⟩
/-- (*anabranch/part.Part).more -/
def BF96 : AFunc := ⟨32, [], (.seq (.region [⟨some 3, .box 28 (.t 1), none, []⟩] .seq)
  (.seq (.region [⟨some 5, .move (.t 0), none, []⟩,
    ⟨some 6, .nilCheck (.t 5), none, []⟩,
    ⟨some 7, .fieldAddr 3 (.t 6), none, []⟩,
    ⟨some 8, .load1 (.t 7), none, [5, 7]⟩,
    ⟨some 9, .loadN 10 (.t 3), none, [5]⟩,
    ⟨some 10, .callF 82 [(.t 9)], none, []⟩,
    ⟨some 11, .lookup [(.i .i64), (.i .u32)] true .sl0 (.t 8) (.t 10) false, none, [7]⟩,
    ⟨some 12, .callF 56 [(.t 11)], none, []⟩,
    ⟨some 13, .loadN 10 (.t 3), none, [5, 7, 10]⟩,
    ⟨some 14, .buildSlice 28 1 10 [(.int .i64 0), (.int .u32 0), (.int .i64 0), (.int .i64 0), (.int .u8 0), (.int .i64 0), (.int .i64 0), (.int .u64 0), (.int .i64 0), (.int .i64 0)] [(0, 10, (.t 13))], none, []⟩,
    ⟨some 15, .append 28 10 80 [(.int .i64 0), (.int .u32 0), (.int .i64 0), (.int .i64 0), (.int .u8 0), (.int .i64 0), (.int .i64 0), (.int .u64 0), (.int .i64 0), (.int .i64 0)] (.t 12) (.t 14), none, []⟩,
    ⟨some 4, .move (.t 15), none, []⟩] .sink)
  (.seq (.region [⟨some 16, .move (.t 4), none, []⟩,
    ⟨some 17, .callF 54 [(.t 16), (.c (.fn 42 [] []))], none, []⟩] .seq)
  (.seq (.region [⟨some 18, .move (.t 0), none, []⟩,
    ⟨some 19, .nilCheck (.t 18), none, []⟩,
    ⟨some 20, .fieldAddr 3 (.t 19), none, []⟩,
    ⟨some 21, .load1 (.t 20), none, [5, 7]⟩,
    ⟨some 22, .loadN 10 (.t 3), none, [5]⟩,
    ⟨some 23, .callF 82 [(.t 22)], none, []⟩,
    ⟨some 24, .move (.t 4), none, []⟩,
    ⟨none, .mapUpdate [(.i .i64), (.i .u32)] true (.t 21) (.t 23) (.t 24), none, []⟩] .sink)
  (.region [⟨some 25, .move (.t 0), none, []⟩,
    ⟨some 26, .nilCheck (.t 25), none, []⟩,
    ⟨some 27, .fieldAddr 4 (.t 26), none, []⟩,
    ⟨some 28, .load1 (.t 27), none, []⟩,
    ⟨some 29, .bin .add (.t 28) (.c (.int .i64 1)), none, []⟩,
    ⟨some 30, .nilCheck (.t 25), none, []⟩,
    ⟨some 31, .fieldAddr 4 (.t 30), none, []⟩,
    ⟨none, .store 1 (.t 31) (.t 29), none, []⟩] .seq)))))⟩
/-- (*anabranch/part.Part).lay$1 -/
def BF97 : AFunc := ⟨22, [.tmp 4], (.seq (.region [⟨some 3, .box 28 (.t 0), none, []⟩,
    ⟨some 4, .move (.c (.bool false)), none, []⟩] .seq)
  (.seq (.region [⟨some 5, .loadN 10 (.t 3), none, [1]⟩,
    ⟨some 6, .callF 98 [(.t 5)], none, []⟩,
    ⟨some 7, .loadN 10 (.t 1), none, [1, 3]⟩,
    ⟨some 8, .callF 98 [(.t 7)], none, []⟩,
    ⟨some 9, .eqs [.i, .i] false (.t 6) (.t 8), none, []⟩,
    ⟨some 10, .move (.t 9), none, []⟩,
    ⟨some 11, .fieldAddr 0 (.t 2), some (10, false), []⟩,
    ⟨some 12, .load1 (.t 11), some (10, false), [11]⟩,
    ⟨some 13, .bin .eql (.t 12) (.c (.int .i64 6)), some (10, false), []⟩,
    ⟨some 14, .move (.t 13), some (10, false), []⟩,
    ⟨some 15, .loadN 10 (.t 3), some (14, true), [11]⟩,
    ⟨some 16, .callF 98 [(.t 15)], some (14, true), []⟩,
    ⟨some 17, .loadN 10 (.t 1), some (14, true), [11, 13]⟩,
    ⟨some 18, .callF 98 [(.t 17)], some (14, true), []⟩,
    ⟨some 19, .callF 99 [(.t 16), (.t 18)], some (14, true), []⟩,
    ⟨some 20, .pick (.t 14) (.t 19) (.c (.bool false)), some (10, false), []⟩,
    ⟨some 21, .pick (.t 10) (.c (.bool true)) (.t 20), none, []⟩,
    ⟨some 4, .move (.t 21), none, []⟩] .sink)
  .ret))⟩
/-- anabranch/part.window -/
def BF98 : AFunc := ⟨8, [.cellN 2 2], (.seq (.region [⟨some 1, .box 28 (.t 0), none, []⟩,
    ⟨some 2, .alloc 96 [(.int .i64 0), (.int .i64 0)], none, []⟩] .seq)
  (.seq (.region [⟨some 3, .fieldAddr 2 (.t 1), none, []⟩,
    ⟨some 4, .load1 (.t 3), none, []⟩,
    ⟨some 5, .fieldAddr 3 (.t 1), none, []⟩,
    ⟨some 6, .load1 (.t 5), none, []⟩,
    ⟨some 7, .build [(.int .i64 0), (.int .i64 0)] [(0, 1, (.t 4)), (1, 1, (.t 6))], none, []⟩,
    ⟨none, .store 2 (.t 2) (.t 7), none, []⟩] .seq)
  .ret))⟩
/-- anabranch/win.Meet -/
def BF99 : AFunc := ⟨17, [.tmp 4], (.seq (.region [⟨some 2, .box 96 (.t 0), none, []⟩,
    ⟨some 3, .box 96 (.t 1), none, []⟩,
    ⟨some 4, .move (.c (.bool false)), none, []⟩] .seq)
  (.seq (.region [⟨some 5, .indexAddrA 2 1 (.t 2) (.c (.int .i64 0)), none, []⟩,
    ⟨some 6, .load1 (.t 5), none, []⟩,
    ⟨some 7, .indexAddrA 2 1 (.t 3) (.c (.int .i64 1)), none, []⟩,
    ⟨some 8, .load1 (.t 7), none, []⟩,
    ⟨some 9, .bin .lss (.t 6) (.t 8), none, []⟩,
    ⟨some 10, .move (.t 9), none, []⟩,
    ⟨some 11, .indexAddrA 2 1 (.t 3) (.c (.int .i64 0)), some (10, true), []⟩,
    ⟨some 12, .load1 (.t 11), some (10, true), []⟩,
    ⟨some 13, .indexAddrA 2 1 (.t 2) (.c (.int .i64 1)), some (10, true), []⟩,
    ⟨some 14, .load1 (.t 13), some (10, true), []⟩,
    ⟨some 15, .bin .lss (.t 12) (.t 14), some (10, true), []⟩,
    ⟨some 16, .pick (.t 10) (.t 15) (.c (.bool false)), none, []⟩,
    ⟨some 4, .move (.t 16), none, []⟩] .seq)
  .ret))⟩
/-- slices.IndexFunc[[]anabranch/api.Entry,anabranch/api.Entry] -/
def BF100 : AFunc := ⟨19, [.tmp 4], (.seq (.region [⟨some 4, .move (.c (.int .i64 0)), none, []⟩] .seq)
  (.seq (.seq (.region [⟨some 6, .move (.t 0), none, []⟩,
    ⟨some 7, .len .sl (.t 6), none, []⟩,
    ⟨some 8, .move (.c (.int .i64 0)), none, []⟩] .seq)
  (.block 0 (.loop (.seq (.region [⟨some 9, .bin .lss (.t 8) (.t 7), none, []⟩] .seq)
  (.seq (.cond (.t 9) .skip
  (.exit 0))
  (.seq (.block 1 (.seq (.region [⟨some 10, .move (.t 8), none, []⟩,
    ⟨some 5, .move (.t 10), none, []⟩] .seq)
  (.seq (.region [⟨some 11, .move (.t 1), none, []⟩,
    ⟨some 12, .move (.t 0), none, []⟩,
    ⟨some 13, .move (.t 5), none, []⟩,
    ⟨some 14, .indexAddrS 10 (.t 12) (.t 13), none, []⟩,
    ⟨some 15, .loadN 10 (.t 14), none, []⟩,
    ⟨some 16, .callV (.t 11) [(.t 15)], none, []⟩] .seq)
  (.cond (.t 16) (.seq (.region [⟨some 17, .move (.t 5), none, []⟩,
    ⟨some 4, .move (.t 17), none, []⟩] .seq)
  .ret)
  .skip))))
  (.region [⟨some 18, .bin .add (.t 8) (.c (.int .i64 1)), none, []⟩,
    ⟨some 8, .move (.t 18), none, []⟩] .seq)))))))
  (.seq (.region [⟨some 4, .move (.c (.int .i64 (-1))), none, []⟩] .seq)
  .ret)))⟩
/-- anabranch/win.Join -/
def BF101 : AFunc := ⟨16, [.cellN 4 2], (.seq (.region [⟨some 2, .box 96 (.t 0), none, []⟩,
    ⟨some 3, .box 96 (.t 1), none, []⟩,
    ⟨some 4, .alloc 96 [(.int .i64 0), (.int .i64 0)], none, []⟩] .seq)
  (.seq (.region [⟨some 5, .indexAddrA 2 1 (.t 2) (.c (.int .i64 0)), none, []⟩,
    ⟨some 6, .load1 (.t 5), none, []⟩,
    ⟨some 7, .indexAddrA 2 1 (.t 3) (.c (.int .i64 0)), none, []⟩,
    ⟨some 8, .load1 (.t 7), none, []⟩,
    ⟨some 9, .maxmin false [(.t 6), (.t 8)], none, []⟩,
    ⟨some 10, .indexAddrA 2 1 (.t 2) (.c (.int .i64 1)), none, []⟩,
    ⟨some 11, .load1 (.t 10), none, []⟩,
    ⟨some 12, .indexAddrA 2 1 (.t 3) (.c (.int .i64 1)), none, []⟩,
    ⟨some 13, .load1 (.t 12), none, []⟩,
    ⟨some 14, .maxmin true [(.t 11), (.t 13)], none, []⟩,
    ⟨some 15, .build [(.int .i64 0), (.int .i64 0)] [(0, 1, (.t 9)), (1, 1, (.t 14))], none, []⟩,
    ⟨none, .store 2 (.t 4) (.t 15), none, []⟩] .seq)
  .ret))⟩
/-- anabranch/acc.Merge -/
def BF102 : AFunc := ⟨51, [.cellN 4 5], (.seq (.region [⟨some 2, .box 26 (.t 0), none, []⟩,
    ⟨some 3, .box 26 (.t 1), none, []⟩,
    ⟨some 4, .alloc 26 [(.int .i64 0), (.int .i64 0), (.int .u64 0), (.int .i64 0), (.int .i64 0)], none, []⟩] .seq)
  (.seq (.seq (.region [⟨some 7, .build [(.int .i64 0), (.int .i64 0), (.int .u64 0), (.int .i64 0), (.int .i64 0)] [], none, []⟩] .seq)
  (.block 0 (.seq (.region [⟨some 9, .loadN 5 (.t 2), none, []⟩,
    ⟨some 10, .callF 169 [(.t 9)], none, []⟩,
    ⟨some 11, .eqs [.i, .i, .i, .i, .i] false (.t 7) (.t 10), none, []⟩,
    ⟨some 8, .move (.t 11), none, []⟩] .seq)
  (.cond (.t 8) (.seq (.region [⟨some 12, .loadN 5 (.t 3), none, []⟩,
    ⟨none, .store 5 (.t 4) (.t 12), none, []⟩] .seq)
  .ret)
  (.seq (.region [⟨some 14, .loadN 5 (.t 3), none, []⟩,
    ⟨some 15, .callF 169 [(.t 14)], none, []⟩,
    ⟨some 16, .eqs [.i, .i, .i, .i, .i] false (.t 7) (.t 15), none, []⟩,
    ⟨some 13, .move (.t 16), none, []⟩] .seq)
  (.cond (.t 13) (.seq (.region [⟨some 17, .loadN 5 (.t 2), none, []⟩,
    ⟨none, .store 5 (.t 4) (.t 17), none, []⟩] .seq)
  .ret)
  .skip))))))
  (.seq (.region [⟨some 19, .fieldAddr 2 (.t 2), none, []⟩,
    ⟨some 20, .load1 (.t 19), none, []⟩,
    ⟨some 21, .fieldAddr 2 (.t 3), none, []⟩,
    ⟨some 22, .load1 (.t 21), none, []⟩,
    ⟨some 23, .add64 (.t 20) (.t 22) (.c (.int .u64 0)), none, []⟩,
    ⟨some 18, .move (.t 23), none, []⟩,
    ⟨some 24, .extract (.t 18) 0, none, []⟩,
    ⟨some 25, .extract (.t 18) 1, none, []⟩,
    ⟨some 5, .move (.t 24), none, []⟩,
    ⟨some 6, .move (.t 25), none, []⟩] .seq)
  (.seq (.region [⟨some 26, .fieldAddr 0 (.t 2), none, []⟩,
    ⟨some 27, .load1 (.t 26), none, []⟩,
    ⟨some 28, .fieldAddr 0 (.t 3), none, []⟩,
    ⟨some 29, .load1 (.t 28), none, []⟩,
    ⟨some 30, .bin .add (.t 27) (.t 29), none, []⟩,
    ⟨some 31, .fieldAddr 1 (.t 2), none, []⟩,
    ⟨some 32, .load1 (.t 31), none, []⟩,
    ⟨some 33, .fieldAddr 1 (.t 3), none, []⟩,
    ⟨some 34, .load1 (.t 33), none, []⟩,
    ⟨some 35, .bin .add (.t 32) (.t 34), none, []⟩,
    ⟨some 36, .move (.t 6), none, []⟩,
    ⟨some 37, .conv .i64 (.t 36), none, []⟩,
    ⟨some 38, .bin .add (.t 35) (.t 37), none, []⟩,
    ⟨some 39, .move (.t 5), none, []⟩,
    ⟨some 40, .fieldAddr 3 (.t 2), none, []⟩,
    ⟨some 41, .load1 (.t 40), none, []⟩,
    ⟨some 42, .fieldAddr 3 (.t 3), none, []⟩,
    ⟨some 43, .load1 (.t 42), none, []⟩,
    ⟨some 44, .maxmin false [(.t 41), (.t 43)], none, []⟩,
    ⟨some 45, .fieldAddr 4 (.t 2), none, []⟩,
    ⟨some 46, .load1 (.t 45), none, []⟩,
    ⟨some 47, .fieldAddr 4 (.t 3), none, []⟩,
    ⟨some 48, .load1 (.t 47), none, []⟩,
    ⟨some 49, .maxmin true [(.t 46), (.t 48)], none, []⟩,
    ⟨some 50, .build [(.int .i64 0), (.int .i64 0), (.int .u64 0), (.int .i64 0), (.int .i64 0)] [(0, 1, (.t 30)), (1, 1, (.t 38)), (2, 1, (.t 39)), (3, 1, (.t 44)), (4, 1, (.t 49))], none, []⟩,
    ⟨none, .store 5 (.t 4) (.t 50), none, []⟩] .seq)
  .ret))))⟩

end Go.Eng
