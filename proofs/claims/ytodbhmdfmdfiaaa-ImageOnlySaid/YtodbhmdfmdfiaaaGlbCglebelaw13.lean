/-
  What functions of the program are, one by one (the functions that they call as parameters), in a form of which something can be shown.
-/
import Derived.Test.YtodbhmdfmdfiaaaGlbLibB
set_option linter.unusedSimpArgs false
set_option linter.unusedVariables false
namespace Glb
open Go
set_option maxRecDepth 100000

/-- glebe/glebelaw13.known -/
def c_glebelaw13_known (f_glebelaw13_first : FuncId) (f_image_Put : FuncId) (f_image_Get : FuncId) (f_image_Apply : FuncId) (f_glebekit_SameImage : FuncId) : AFn := ⟨60, fun s => List.contains [0, 1, 2, 3, 4] s, (.seq (.reg [⟨(.loc 0), (.r (.mov (.cst (.bool false)))), none⟩])
 (.seq (.reg [⟨(.tmp 6), (.call f_glebelaw13_first []), none⟩,
  ⟨(.tmp 7), (.call f_image_Put [(.tmp 6)]), none⟩,
  ⟨(.tmp 8), (.call f_image_Get [(.tmp 7)]), none⟩,
  ⟨(.tmp 5), (.r (.mov (.tmp 8))), none⟩,
  ⟨(.tmp 9), (.r (.ext (.tmp 5) 0)), none⟩,
  ⟨(.tmp 10), (.r (.ext (.tmp 5) 1)), none⟩,
  ⟨(.loc 1), (.h (.mk [.nils, .nils])), none⟩,
  ⟨.none, (.h (.store 2 (.loc 1) (.tmp 9))), none⟩,
  ⟨(.loc 2), (.r (.mov (.tmp 10))), none⟩])
 (.seq (.reg [⟨(.tmp 12), (.r (.load true 2 (.loc 1))), none⟩,
  ⟨(.tmp 13), (.r (.build [(.int .i64 0), (.int .i64 0), (.int .i64 0), (.int .i64 0), (.int .i64 0), (.int .i64 0), (.int .i64 0), .nils, .nils, .nils, .nils, .nils, (.int .i64 0), (.int .i64 0), (.int .i64 0), (.int .i64 0), (.int .i64 0)] [(0, 1, (.cst (.int .i64 1))), (1, 1, (.cst (.int .i64 1))), (2, 1, (.cst (.int .i64 8))), (3, 1, (.cst (.int .i64 3)))])), none⟩,
  ⟨(.tmp 14), (.call f_image_Apply [(.tmp 12), (.tmp 13)]), none⟩,
  ⟨(.tmp 11), (.r (.mov (.tmp 14))), none⟩,
  ⟨(.tmp 15), (.r (.ext (.tmp 11) 0)), none⟩,
  ⟨(.tmp 16), (.r (.ext (.tmp 11) 1)), none⟩,
  ⟨(.loc 3), (.h (.mk [.nils, .nils])), none⟩,
  ⟨.none, (.h (.store 2 (.loc 3) (.tmp 15))), none⟩,
  ⟨(.loc 4), (.r (.mov (.tmp 16))), none⟩])
 (.seq (.dreg ⟨[0, 1, 3, 7, 7, 31, 63, 127, 255, 511, 1023, 2047, 4095, 8191, 16383, 32767, 65535, 131071, 262143, 524287, 1048575, 2097151, 4194303, 8388607, 16777215, 33554431, 67108863, 134217727, 268435455, 536870911, 1073741823, 2147483647, 4294967295, 8589934591, 17179869183, 34359738367, 68719476735, 137438953471, 274877906943, 549755813887, 1099511627775, 2199023255551, 4398046511103, 8796093022207], 0, [⟨0, 0, false, (.r (.mov (.loc 2))), none⟩,
  ⟨1, 0, false, (.r (.bin .eql (.tmp 0) (.cst (.int .i64 0)))), none⟩,
  ⟨2, 0, false, (.r (.mov (.tmp 1))), none⟩,
  ⟨3, 0, false, (.r (.load true 2 (.loc 1))), (some ((.tmp 2), true))⟩,
  ⟨4, 0, true, (.call f_glebelaw13_first []), (some ((.tmp 2), true))⟩,
  ⟨5, 0, true, (.call f_glebekit_SameImage [(.tmp 3), (.tmp 4)]), (some ((.tmp 2), true))⟩,
  ⟨6, 0, false, (.r (.pick (.tmp 2) (.tmp 5) (.cst (.bool false)))), none⟩,
  ⟨7, 0, false, (.r (.mov (.tmp 6))), none⟩,
  ⟨8, 0, false, (.r (.mov (.loc 4))), (some ((.tmp 7), true))⟩,
  ⟨9, 0, false, (.r (.bin .eql (.tmp 8) (.cst (.int .i64 0)))), (some ((.tmp 7), true))⟩,
  ⟨10, 0, false, (.r (.pick (.tmp 7) (.tmp 9) (.cst (.bool false)))), none⟩,
  ⟨11, 0, false, (.r (.mov (.tmp 10))), none⟩,
  ⟨12, 0, false, (.r (.off 0 (.loc 3))), (some ((.tmp 11), true))⟩,
  ⟨13, 0, false, (.r (.load false 1 (.tmp 12))), (some ((.tmp 11), true))⟩,
  ⟨14, 0, false, (.r (.len (.tmp 13))), (some ((.tmp 11), true))⟩,
  ⟨15, 0, false, (.r (.bin .eql (.tmp 14) (.cst (.int .i64 1)))), (some ((.tmp 11), true))⟩,
  ⟨16, 0, false, (.r (.pick (.tmp 11) (.tmp 15) (.cst (.bool false)))), none⟩,
  ⟨17, 0, false, (.r (.mov (.tmp 16))), none⟩,
  ⟨18, 0, false, (.r (.off 0 (.loc 3))), (some ((.tmp 17), true))⟩,
  ⟨19, 0, false, (.r (.load false 1 (.tmp 18))), (some ((.tmp 17), true))⟩,
  ⟨20, 0, false, (.r (.idx 10 (.tmp 19) (.cst (.int .i64 0)))), (some ((.tmp 17), true))⟩,
  ⟨21, 0, false, (.r (.off 1 (.tmp 20))), (some ((.tmp 17), true))⟩,
  ⟨22, 0, false, (.r (.load false 1 (.tmp 21))), (some ((.tmp 17), true))⟩,
  ⟨23, 0, false, (.r (.bin .eql (.tmp 22) (.cst (.int .i64 8)))), (some ((.tmp 17), true))⟩,
  ⟨24, 0, false, (.r (.pick (.tmp 17) (.tmp 23) (.cst (.bool false)))), none⟩,
  ⟨25, 0, false, (.r (.mov (.tmp 24))), none⟩,
  ⟨26, 0, false, (.r (.off 0 (.loc 3))), (some ((.tmp 25), true))⟩,
  ⟨27, 0, false, (.r (.load false 1 (.tmp 26))), (some ((.tmp 25), true))⟩,
  ⟨28, 0, false, (.r (.idx 10 (.tmp 27) (.cst (.int .i64 0)))), (some ((.tmp 25), true))⟩,
  ⟨29, 0, false, (.r (.off 2 (.tmp 28))), (some ((.tmp 25), true))⟩,
  ⟨30, 0, false, (.r (.load false 1 (.tmp 29))), (some ((.tmp 25), true))⟩,
  ⟨31, 0, false, (.r (.bin .eql (.tmp 30) (.cst (.int .i64 3)))), (some ((.tmp 25), true))⟩,
  ⟨32, 0, false, (.r (.pick (.tmp 25) (.tmp 31) (.cst (.bool false)))), none⟩,
  ⟨33, 0, false, (.r (.mov (.tmp 32))), none⟩,
  ⟨34, 0, false, (.r (.off 0 (.loc 3))), (some ((.tmp 33), true))⟩,
  ⟨35, 0, false, (.r (.load false 1 (.tmp 34))), (some ((.tmp 33), true))⟩,
  ⟨36, 0, false, (.r (.idx 10 (.tmp 35) (.cst (.int .i64 0)))), (some ((.tmp 33), true))⟩,
  ⟨37, 0, false, (.r (.off 3 (.tmp 36))), (some ((.tmp 33), true))⟩,
  ⟨38, 0, false, (.r (.off 2 (.tmp 37))), (some ((.tmp 33), true))⟩,
  ⟨39, 0, false, (.r (.load false 1 (.tmp 38))), (some ((.tmp 33), true))⟩,
  ⟨40, 0, false, (.r (.len (.tmp 39))), (some ((.tmp 33), true))⟩,
  ⟨41, 0, false, (.r (.bin .eql (.tmp 40) (.cst (.int .i64 3)))), (some ((.tmp 33), true))⟩,
  ⟨42, 0, false, (.r (.pick (.tmp 33) (.tmp 41) (.cst (.bool false)))), none⟩,
  ⟨43, 0, false, (.r (.mov (.tmp 42))), none⟩], [(0, 43)]⟩)
 .ret)))), [(.tmp (.loc 0))]⟩

/-- glebe/glebelaw13.first -/
def c_glebelaw13_first : AFn := ⟨16, fun s => List.contains [0, 1] s, (.seq (.reg [⟨(.loc 0), (.h (.mk [.nils, .nils])), none⟩])
 (.seq (.reg [⟨(.tmp 2), (.h (.bsl 1 [(.cst (.int .u8 1))])), none⟩,
  ⟨(.tmp 3), (.r (.build [(.int .i64 0), (.int .i64 0), .nils] [(0, 1, (.cst (.int .i64 2))), (2, 1, (.tmp 2))])), none⟩,
  ⟨(.tmp 4), (.r (.build [(.int .i64 0), (.int .i64 0), .nils] [(0, 1, (.cst (.int .i64 3)))])), none⟩,
  ⟨(.tmp 5), (.h (.bsl 1 [(.cst (.int .u8 2)), (.cst (.int .u8 3))])), none⟩,
  ⟨(.tmp 6), (.r (.build [(.int .i64 0), (.int .i64 0), .nils] [(0, 1, (.cst (.int .i64 3))), (2, 1, (.tmp 5))])), none⟩,
  ⟨(.tmp 7), (.h (.bsl 3 [(.tmp 3), (.tmp 4), (.tmp 6)])), none⟩,
  ⟨(.tmp 8), (.r (.build [(.int .i64 0), (.int .i64 0), .nils] [(0, 1, (.cst (.int .i64 4))), (1, 1, (.cst (.int .i64 2))), (2, 1, (.tmp 7))])), none⟩,
  ⟨(.loc 1), (.h (.mk [(.int .i64 0), (.int .i64 0), .nils])), none⟩,
  ⟨.none, (.h (.store 3 (.loc 1) (.tmp 8))), none⟩])
 (.seq (.reg [⟨(.tmp 9), (.r (.load true 3 (.loc 1))), none⟩,
  ⟨(.tmp 10), (.h (.bsl 1 [(.cst (.int .i64 1)), (.cst (.int .i64 2)), (.cst (.int .i64 3))])), none⟩,
  ⟨(.tmp 11), (.r (.build [.nils, .nils, .nils] [(0, 1, (.tmp 10))])), none⟩,
  ⟨(.tmp 12), (.h (.bsl 1 [(.cst (.int .u8 9))])), none⟩,
  ⟨(.tmp 13), (.r (.build [(.int .i64 0), (.int .i64 0), (.int .i64 0), (.int .i64 0), (.int .i64 0), .nils, .nils, .nils, .nils, .nils] [(0, 1, (.cst (.int .i64 1))), (1, 1, (.cst (.int .i64 3))), (2, 1, (.cst (.int .i64 2))), (3, 3, (.tmp 9)), (6, 3, (.tmp 11)), (9, 1, (.tmp 12))])), none⟩,
  ⟨(.tmp 14), (.h (.bsl 10 [(.tmp 13)])), none⟩,
  ⟨(.tmp 15), (.r (.build [.nils, .nils] [(0, 1, (.tmp 14))])), none⟩,
  ⟨.none, (.h (.store 2 (.loc 0) (.tmp 15))), none⟩])
 .ret))), [(.cell (.loc 0) true 2)]⟩

/-- glebe/glebelaw13.ImageOnly -/
def c_glebelaw13_ImageOnly (f_glebelaw13_known : FuncId) (f_image_Get : FuncId) (f_glebelaw13_ordered : FuncId) (f_image_Put : FuncId) (f_glebekit_SameBytes : FuncId) (f_image_GetChanges : FuncId) (f_image_PutChanges : FuncId) (f_image_GetConf : FuncId) (f_image_PutConf : FuncId) : AFn := ⟨85, fun s => List.contains [0, 2, 3, 4, 5, 6, 7, 8, 11, 45, 68] s, (.seq (.reg [⟨(.loc 2), (.r (.mov (.cst (.bool false)))), none⟩])
 (.seq (.seq (.reg [⟨(.tmp 9), (.r (.mov (.loc 0))), none⟩,
  ⟨(.tmp 10), (.r (.len (.tmp 9))), none⟩,
  ⟨(.loc 11), (.r (.bin .gtr (.tmp 10) (.cst (.int .i64 65536)))), none⟩])
 (.cond (.loc 11) (.seq (.reg [⟨(.tmp 12), (.call f_glebelaw13_known []), none⟩,
  ⟨(.loc 2), (.r (.mov (.tmp 12))), none⟩])
 .ret)
 .skip))
 (.seq (.reg [⟨(.tmp 14), (.r (.mov (.loc 0))), none⟩,
  ⟨(.tmp 15), (.call f_image_Get [(.tmp 14)]), none⟩,
  ⟨(.tmp 13), (.r (.mov (.tmp 15))), none⟩,
  ⟨(.tmp 16), (.r (.ext (.tmp 13) 0)), none⟩,
  ⟨(.tmp 17), (.r (.ext (.tmp 13) 1)), none⟩,
  ⟨(.loc 3), (.h (.mk [.nils, .nils])), none⟩,
  ⟨.none, (.h (.store 2 (.loc 3) (.tmp 16))), none⟩,
  ⟨(.loc 4), (.r (.mov (.tmp 17))), none⟩])
 (.seq (.seq (.reg [⟨(.tmp 18), (.r (.mov (.loc 4))), none⟩,
  ⟨(.tmp 19), (.r (.bin .eql (.tmp 18) (.cst (.int .i64 0)))), none⟩,
  ⟨(.tmp 20), (.r (.mov (.tmp 19))), none⟩,
  ⟨(.tmp 21), (.r (.load true 2 (.loc 3))), (some ((.tmp 20), true))⟩,
  ⟨(.tmp 22), (.call f_glebelaw13_ordered [(.tmp 21)]), (some ((.tmp 20), true))⟩,
  ⟨(.tmp 23), (.r (.not (.tmp 22))), (some ((.tmp 20), true))⟩,
  ⟨(.tmp 24), (.r (.mov (.tmp 23))), (some ((.tmp 20), true))⟩,
  ⟨(.tmp 25), (.r (.load true 2 (.loc 3))), (some ((.tmp 24), false))⟩,
  ⟨(.tmp 26), (.call f_image_Put [(.tmp 25)]), (some ((.tmp 24), false))⟩,
  ⟨(.tmp 27), (.r (.mov (.loc 0))), (some ((.tmp 24), false))⟩,
  ⟨(.tmp 28), (.call f_glebekit_SameBytes [(.tmp 26), (.tmp 27)]), (some ((.tmp 24), false))⟩,
  ⟨(.tmp 29), (.r (.not (.tmp 28))), (some ((.tmp 24), false))⟩,
  ⟨(.tmp 30), (.r (.pick (.tmp 24) (.cst (.bool true)) (.tmp 29))), (some ((.tmp 20), true))⟩,
  ⟨(.tmp 31), (.r (.pick (.tmp 20) (.tmp 30) (.cst (.bool false)))), none⟩,
  ⟨(.tmp 32), (.r (.mov (.tmp 31))), none⟩,
  ⟨(.tmp 33), (.r (.mov (.loc 4))), (some ((.tmp 32), false))⟩,
  ⟨(.tmp 34), (.r (.bin .neq (.tmp 33) (.cst (.int .i64 0)))), (some ((.tmp 32), false))⟩,
  ⟨(.tmp 35), (.r (.mov (.tmp 34))), (some ((.tmp 32), false))⟩,
  ⟨(.tmp 36), (.r (.off 0 (.loc 3))), (some ((.tmp 35), true))⟩,
  ⟨(.tmp 37), (.r (.load false 1 (.tmp 36))), (some ((.tmp 35), true))⟩,
  ⟨(.tmp 38), (.r (.len (.tmp 37))), (some ((.tmp 35), true))⟩,
  ⟨(.tmp 39), (.r (.off 1 (.loc 3))), (some ((.tmp 35), true))⟩,
  ⟨(.tmp 40), (.r (.load false 1 (.tmp 39))), (some ((.tmp 35), true))⟩,
  ⟨(.tmp 41), (.r (.len (.tmp 40))), (some ((.tmp 35), true))⟩,
  ⟨(.tmp 42), (.r (.bin .add (.tmp 38) (.tmp 41))), (some ((.tmp 35), true))⟩,
  ⟨(.tmp 43), (.r (.bin .gtr (.tmp 42) (.cst (.int .i64 0)))), (some ((.tmp 35), true))⟩,
  ⟨(.tmp 44), (.r (.pick (.tmp 35) (.tmp 43) (.cst (.bool false)))), (some ((.tmp 32), false))⟩,
  ⟨(.loc 45), (.r (.pick (.tmp 32) (.cst (.bool true)) (.tmp 44))), none⟩])
 (.cond (.loc 45) (.seq (.reg [⟨(.loc 2), (.r (.mov (.cst (.bool false)))), none⟩])
 .ret)
 .skip))
 (.seq (.reg [⟨(.tmp 47), (.r (.mov (.loc 0))), none⟩,
  ⟨(.tmp 48), (.call f_image_GetChanges [(.tmp 47)]), none⟩,
  ⟨(.tmp 46), (.r (.mov (.tmp 48))), none⟩,
  ⟨(.tmp 49), (.r (.ext (.tmp 46) 0)), none⟩,
  ⟨(.tmp 50), (.r (.ext (.tmp 46) 1)), none⟩,
  ⟨(.loc 5), (.r (.mov (.tmp 49))), none⟩,
  ⟨(.loc 6), (.r (.mov (.tmp 50))), none⟩])
 (.seq (.seq (.reg [⟨(.tmp 51), (.r (.mov (.loc 6))), none⟩,
  ⟨(.tmp 52), (.r (.bin .eql (.tmp 51) (.cst (.int .i64 0)))), none⟩,
  ⟨(.tmp 53), (.r (.mov (.tmp 52))), none⟩,
  ⟨(.tmp 54), (.r (.mov (.loc 5))), (some ((.tmp 53), true))⟩,
  ⟨(.tmp 55), (.call f_image_PutChanges [(.tmp 54)]), (some ((.tmp 53), true))⟩,
  ⟨(.tmp 56), (.r (.mov (.loc 0))), (some ((.tmp 53), true))⟩,
  ⟨(.tmp 57), (.call f_glebekit_SameBytes [(.tmp 55), (.tmp 56)]), (some ((.tmp 53), true))⟩,
  ⟨(.tmp 58), (.r (.not (.tmp 57))), (some ((.tmp 53), true))⟩,
  ⟨(.tmp 59), (.r (.pick (.tmp 53) (.tmp 58) (.cst (.bool false)))), none⟩,
  ⟨(.tmp 60), (.r (.mov (.tmp 59))), none⟩,
  ⟨(.tmp 61), (.r (.mov (.loc 6))), (some ((.tmp 60), false))⟩,
  ⟨(.tmp 62), (.r (.bin .neq (.tmp 61) (.cst (.int .i64 0)))), (some ((.tmp 60), false))⟩,
  ⟨(.tmp 63), (.r (.mov (.tmp 62))), (some ((.tmp 60), false))⟩,
  ⟨(.tmp 64), (.r (.mov (.loc 5))), (some ((.tmp 63), true))⟩,
  ⟨(.tmp 65), (.r (.len (.tmp 64))), (some ((.tmp 63), true))⟩,
  ⟨(.tmp 66), (.r (.bin .gtr (.tmp 65) (.cst (.int .i64 0)))), (some ((.tmp 63), true))⟩,
  ⟨(.tmp 67), (.r (.pick (.tmp 63) (.tmp 66) (.cst (.bool false)))), (some ((.tmp 60), false))⟩,
  ⟨(.loc 68), (.r (.pick (.tmp 60) (.cst (.bool true)) (.tmp 67))), none⟩])
 (.cond (.loc 68) (.seq (.reg [⟨(.loc 2), (.r (.mov (.cst (.bool false)))), none⟩])
 .ret)
 .skip))
 (.seq (.reg [⟨(.tmp 70), (.r (.mov (.loc 0))), none⟩,
  ⟨(.tmp 71), (.call f_image_GetConf [(.tmp 70)]), none⟩,
  ⟨(.tmp 69), (.r (.mov (.tmp 71))), none⟩,
  ⟨(.tmp 72), (.r (.ext (.tmp 69) 0)), none⟩,
  ⟨(.tmp 73), (.r (.ext (.tmp 69) 1)), none⟩,
  ⟨(.loc 7), (.h (.mk [.nils, .nils, .nils])), none⟩,
  ⟨.none, (.h (.store 3 (.loc 7) (.tmp 72))), none⟩,
  ⟨(.loc 8), (.r (.mov (.tmp 73))), none⟩])
 (.seq (.reg [⟨(.tmp 74), (.r (.mov (.loc 8))), none⟩,
  ⟨(.tmp 75), (.r (.bin .neq (.tmp 74) (.cst (.int .i64 0)))), none⟩,
  ⟨(.tmp 76), (.r (.mov (.tmp 75))), none⟩,
  ⟨(.tmp 77), (.r (.load true 3 (.loc 7))), (some ((.tmp 76), false))⟩,
  ⟨(.tmp 78), (.call f_image_PutConf [(.tmp 77)]), (some ((.tmp 76), false))⟩,
  ⟨(.tmp 79), (.r (.mov (.loc 0))), (some ((.tmp 76), false))⟩,
  ⟨(.tmp 80), (.call f_glebekit_SameBytes [(.tmp 78), (.tmp 79)]), (some ((.tmp 76), false))⟩,
  ⟨(.tmp 81), (.r (.pick (.tmp 76) (.cst (.bool true)) (.tmp 80))), none⟩,
  ⟨(.tmp 82), (.r (.mov (.tmp 81))), none⟩,
  ⟨(.tmp 83), (.call f_glebelaw13_known []), (some ((.tmp 82), true))⟩,
  ⟨(.tmp 84), (.r (.pick (.tmp 82) (.tmp 83) (.cst (.bool false)))), none⟩,
  ⟨(.loc 2), (.r (.mov (.tmp 84))), none⟩])
 .ret)))))))), [(.tmp (.loc 2))]⟩

def c_glebelaw13_ordered_l0 : AC := (.seq (.seq (.reg [⟨(.tmp 7), (.r (.mov (.loc 3))), none⟩,
  ⟨(.tmp 8), (.r (.off 0 (.loc 1))), none⟩,
  ⟨(.tmp 9), (.r (.load false 1 (.tmp 8))), none⟩,
  ⟨(.tmp 10), (.r (.len (.tmp 9))), none⟩,
  ⟨(.loc 11), (.r (.bin .lss (.tmp 7) (.tmp 10))), none⟩])
 (.cond (.loc 11) .skip
 (.exit 0)))
 (.seq (.block 1 (.seq (.dreg ⟨[0, 1, 0, 4, 15, 31, 63, 0, 128, 0, 896, 1920, 3968, 8191], 0, [⟨0, 0, false, (.r (.off 0 (.loc 1))), none⟩,
  ⟨1, 0, false, (.r (.load false 1 (.tmp 0))), none⟩,
  ⟨2, 0, false, (.r (.mov (.loc 3))), none⟩,
  ⟨3, 0, false, (.r (.bin .sub (.tmp 2) (.cst (.int .i64 1)))), none⟩,
  ⟨4, 0, false, (.r (.idx 10 (.tmp 1) (.tmp 3))), none⟩,
  ⟨5, 0, false, (.r (.off 0 (.tmp 4))), none⟩,
  ⟨6, 0, false, (.r (.load false 1 (.tmp 5))), none⟩,
  ⟨7, 0, false, (.r (.off 0 (.loc 1))), none⟩,
  ⟨8, 0, false, (.r (.load false 1 (.tmp 7))), none⟩,
  ⟨9, 0, false, (.r (.mov (.loc 3))), none⟩,
  ⟨10, 0, false, (.r (.idx 10 (.tmp 8) (.tmp 9))), none⟩,
  ⟨11, 0, false, (.r (.off 0 (.tmp 10))), none⟩,
  ⟨12, 0, false, (.r (.load false 1 (.tmp 11))), none⟩,
  ⟨13, 0, false, (.r (.bin .geq (.tmp 6) (.tmp 12))), none⟩], [(27, 13)]⟩)
 (.cond (.loc 27) (.seq (.reg [⟨(.loc 2), (.r (.mov (.cst (.bool false)))), none⟩])
 .ret)
 .skip)))
 (.reg [⟨(.tmp 12), (.r (.mov (.loc 3))), none⟩,
  ⟨(.tmp 13), (.r (.bin .add (.tmp 12) (.cst (.int .i64 1)))), none⟩,
  ⟨(.loc 3), (.r (.mov (.tmp 13))), none⟩])))
def c_glebelaw13_ordered_l1 : AC := (.seq (.seq (.reg [⟨(.tmp 28), (.r (.mov (.loc 4))), none⟩,
  ⟨(.tmp 29), (.r (.off 1 (.loc 1))), none⟩,
  ⟨(.tmp 30), (.r (.load false 1 (.tmp 29))), none⟩,
  ⟨(.tmp 31), (.r (.len (.tmp 30))), none⟩,
  ⟨(.loc 32), (.r (.bin .lss (.tmp 28) (.tmp 31))), none⟩])
 (.cond (.loc 32) .skip
 (.exit 2)))
 (.seq (.block 3 (.seq (.dreg ⟨[0, 1, 0, 4, 15, 31, 0, 64, 0, 448, 960, 0, 0, 6207, 16383], 2, [⟨0, 0, false, (.r (.off 1 (.loc 1))), none⟩,
  ⟨1, 0, false, (.r (.load false 1 (.tmp 0))), none⟩,
  ⟨2, 0, false, (.r (.mov (.loc 4))), none⟩,
  ⟨3, 0, false, (.r (.bin .sub (.tmp 2) (.cst (.int .i64 1)))), none⟩,
  ⟨4, 0, false, (.r (.idx 5 (.tmp 1) (.tmp 3))), none⟩,
  ⟨5, 0, false, (.r (.load true 5 (.tmp 4))), none⟩,
  ⟨6, 0, false, (.r (.off 1 (.loc 1))), none⟩,
  ⟨7, 0, false, (.r (.load false 1 (.tmp 6))), none⟩,
  ⟨8, 0, false, (.r (.mov (.loc 4))), none⟩,
  ⟨9, 0, false, (.r (.idx 5 (.tmp 7) (.tmp 8))), none⟩,
  ⟨10, 0, false, (.r (.load true 5 (.tmp 9))), none⟩,
  ⟨11, 0, false, (.h (.mk [(.int .i64 0), (.int .i64 0), (.int .i64 0), (.int .i64 0), (.int .i64 0)])), none⟩,
  ⟨12, 1, false, (.h (.mk [(.int .i64 0), (.int .i64 0), (.int .i64 0), (.int .i64 0), (.int .i64 0)])), none⟩,
  ⟨13, 2, true, (.h (.store 5 (.tmp 11) (.tmp 5))), none⟩,
  ⟨14, 2, true, (.h (.store 5 (.tmp 12) (.tmp 10))), none⟩], [(5, 11), (6, 12)]⟩)
 (.seq (.reg [⟨(.tmp 46), (.r (.off 0 (.loc 5))), none⟩,
  ⟨(.tmp 47), (.r (.load false 1 (.tmp 46))), none⟩,
  ⟨(.tmp 48), (.r (.off 0 (.loc 6))), none⟩,
  ⟨(.tmp 49), (.r (.load false 1 (.tmp 48))), none⟩,
  ⟨(.tmp 50), (.r (.bin .gtr (.tmp 47) (.tmp 49))), none⟩,
  ⟨(.tmp 51), (.r (.mov (.tmp 50))), none⟩,
  ⟨(.tmp 52), (.r (.off 0 (.loc 5))), (some ((.tmp 51), false))⟩,
  ⟨(.tmp 53), (.r (.load false 1 (.tmp 52))), (some ((.tmp 51), false))⟩,
  ⟨(.tmp 54), (.r (.off 0 (.loc 6))), (some ((.tmp 51), false))⟩,
  ⟨(.tmp 55), (.r (.load false 1 (.tmp 54))), (some ((.tmp 51), false))⟩,
  ⟨(.tmp 56), (.r (.bin .eql (.tmp 53) (.tmp 55))), (some ((.tmp 51), false))⟩,
  ⟨(.tmp 57), (.r (.mov (.tmp 56))), (some ((.tmp 51), false))⟩,
  ⟨(.tmp 58), (.r (.off 1 (.loc 5))), (some ((.tmp 57), true))⟩,
  ⟨(.tmp 59), (.r (.load false 1 (.tmp 58))), (some ((.tmp 57), true))⟩,
  ⟨(.tmp 60), (.r (.off 1 (.loc 6))), (some ((.tmp 57), true))⟩,
  ⟨(.tmp 61), (.r (.load false 1 (.tmp 60))), (some ((.tmp 57), true))⟩,
  ⟨(.tmp 62), (.r (.bin .geq (.tmp 59) (.tmp 61))), (some ((.tmp 57), true))⟩,
  ⟨(.tmp 63), (.r (.pick (.tmp 57) (.tmp 62) (.cst (.bool false)))), (some ((.tmp 51), false))⟩,
  ⟨(.loc 64), (.r (.pick (.tmp 51) (.cst (.bool true)) (.tmp 63))), none⟩])
 (.cond (.loc 64) (.seq (.reg [⟨(.loc 2), (.r (.mov (.cst (.bool false)))), none⟩])
 .ret)
 .skip))))
 (.reg [⟨(.tmp 33), (.r (.mov (.loc 4))), none⟩,
  ⟨(.tmp 34), (.r (.bin .add (.tmp 33) (.cst (.int .i64 1)))), none⟩,
  ⟨(.loc 4), (.r (.mov (.tmp 34))), none⟩])))
/-- glebe/glebelaw13.ordered -/
def c_glebelaw13_ordered : AFn := ⟨65, fun s => List.contains [0, 1, 2, 3, 4, 5, 6, 11, 27, 32, 64] s, (.seq (.reg [⟨(.loc 1), (.h (.box (.loc 0))), none⟩,
  ⟨(.loc 2), (.r (.mov (.cst (.bool false)))), none⟩])
 (.seq (.seq (.reg [⟨(.loc 3), (.r (.mov (.cst (.int .i64 1)))), none⟩])
 (.block 0 (.loop (c_glebelaw13_ordered_l0))))
 (.seq (.seq (.reg [⟨(.loc 4), (.r (.mov (.cst (.int .i64 1)))), none⟩])
 (.block 2 (.loop (c_glebelaw13_ordered_l1))))
 (.seq (.reg [⟨(.loc 2), (.r (.mov (.cst (.bool true)))), none⟩])
 .ret)))), [(.tmp (.loc 2))]⟩

end Glb
