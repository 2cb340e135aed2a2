/-
  What functions of the program are, one by one (the functions that they call as parameters), in a form of which something can be shown.
-/
import Derived.Test.YtodbhmdfmdfiaaaGlbLibB
set_option linter.unusedSimpArgs false
set_option linter.unusedVariables false
namespace Glb
open Go
set_option maxRecDepth 100000

def c_glebelaw13_Few_l0 (f_glebekit_BigHard : FuncId) : AC := (.seq (.seq (.reg [⟨(.tmp 14), (.r (.mov (.loc 3))), none⟩,
  ⟨(.tmp 15), (.r (.off 0 (.loc 1))), none⟩,
  ⟨(.tmp 16), (.r (.load false 1 (.tmp 15))), none⟩,
  ⟨(.tmp 17), (.r (.len (.tmp 16))), none⟩,
  ⟨(.loc 18), (.r (.bin .lss (.tmp 14) (.tmp 17))), none⟩])
 (.cond (.loc 18) .skip
 (.exit 0)))
 (.seq (.block 1 (.seq (.reg [⟨(.tmp 21), (.r (.off 0 (.loc 1))), none⟩,
  ⟨(.tmp 22), (.r (.load false 1 (.tmp 21))), none⟩,
  ⟨(.tmp 23), (.r (.mov (.loc 3))), none⟩,
  ⟨(.tmp 24), (.r (.idx 10 (.tmp 22) (.tmp 23))), none⟩,
  ⟨(.tmp 25), (.r (.load true 10 (.tmp 24))), none⟩,
  ⟨(.loc 26), (.call f_glebekit_BigHard [(.tmp 25), (.cst (.int .i64 100)), (.cst (.int .i64 16384))]), none⟩])
 (.cond (.loc 26) (.seq (.reg [⟨(.loc 2), (.r (.mov (.cst (.bool false)))), none⟩])
 .ret)
 .skip)))
 (.reg [⟨(.tmp 19), (.r (.mov (.loc 3))), none⟩,
  ⟨(.tmp 20), (.r (.bin .add (.tmp 19) (.cst (.int .i64 1)))), none⟩,
  ⟨(.loc 3), (.r (.mov (.tmp 20))), none⟩])))
/-- glebe/glebelaw13.Few -/
def c_glebelaw13_Few (f_glebekit_BigHard : FuncId) : AFn := ⟨27, fun s => List.contains [0, 1, 2, 3, 13, 18, 26] s, (.seq (.reg [⟨(.loc 1), (.h (.box (.loc 0))), none⟩,
  ⟨(.loc 2), (.r (.mov (.cst (.bool false)))), none⟩])
 (.seq (.seq (.reg [⟨(.tmp 4), (.r (.off 0 (.loc 1))), none⟩,
  ⟨(.tmp 5), (.r (.load false 1 (.tmp 4))), none⟩,
  ⟨(.tmp 6), (.r (.len (.tmp 5))), none⟩,
  ⟨(.tmp 7), (.r (.bin .gtr (.tmp 6) (.cst (.int .i64 40)))), none⟩,
  ⟨(.tmp 8), (.r (.mov (.tmp 7))), none⟩,
  ⟨(.tmp 9), (.r (.off 1 (.loc 1))), (some ((.tmp 8), false))⟩,
  ⟨(.tmp 10), (.r (.load false 1 (.tmp 9))), (some ((.tmp 8), false))⟩,
  ⟨(.tmp 11), (.r (.len (.tmp 10))), (some ((.tmp 8), false))⟩,
  ⟨(.tmp 12), (.r (.bin .gtr (.tmp 11) (.cst (.int .i64 200)))), (some ((.tmp 8), false))⟩,
  ⟨(.loc 13), (.r (.pick (.tmp 8) (.cst (.bool true)) (.tmp 12))), none⟩])
 (.cond (.loc 13) (.seq (.reg [⟨(.loc 2), (.r (.mov (.cst (.bool false)))), none⟩])
 .ret)
 .skip))
 (.seq (.seq (.reg [⟨(.loc 3), (.r (.mov (.cst (.int .i64 0)))), none⟩])
 (.block 0 (.loop (c_glebelaw13_Few_l0 f_glebekit_BigHard))))
 (.seq (.reg [⟨(.loc 2), (.r (.mov (.cst (.bool true)))), none⟩])
 .ret)))), [(.tmp (.loc 2))]⟩

/-- glebe/glebelaw13.known -/
def c_glebelaw13_known (f_glebelaw13_first : FuncId) (f_image_Put : FuncId) (f_image_Get : FuncId) (f_image_Apply : FuncId) (f_glebekit_SameImage : FuncId) : AFn := ⟨60, fun s => List.contains [0, 1, 2, 3, 4] s, (.seq (.reg [⟨(.loc 0), (.r (.mov (.cst (.bool false)))), none⟩])
 (.seq (.reg [⟨(.tmp 6), (.call f_glebelaw13_first []), none⟩,
  ⟨(.tmp 7), (.call f_image_Put [(.tmp 6)]), none⟩,
  ⟨(.tmp 8), (.call f_image_Get [(.tmp 7)]), none⟩,
  ⟨(.tmp 5), (.r (.mov (.tmp 8))), none⟩,
  ⟨(.tmp 9), (.r (.ext (.tmp 5) 0)), none⟩,
  ⟨(.tmp 10), (.r (.ext (.tmp 5) 1)), none⟩,
  ⟨(.loc 1), (.h (.mk [.nils, .nils])), none⟩,
  ⟨.none, (.h (.store 2 (.loc 1) (.tmp 9))), none⟩,
  ⟨(.loc 2), (.r (.mov (.tmp 10))), none⟩])
 (.seq (.reg [⟨(.tmp 12), (.r (.load true 2 (.loc 1))), none⟩,
  ⟨(.tmp 13), (.r (.build [(.int .i64 0), (.int .i64 0), (.int .i64 0), (.int .i64 0), (.int .i64 0), (.int .i64 0), (.int .i64 0), .nils, .nils, .nils, .nils, .nils, (.int .i64 0), (.int .i64 0), (.int .i64 0), (.int .i64 0), (.int .i64 0)] [(0, 1, (.cst (.int .i64 1))), (1, 1, (.cst (.int .i64 1))), (2, 1, (.cst (.int .i64 8))), (3, 1, (.cst (.int .i64 3)))])), none⟩,
  ⟨(.tmp 14), (.call f_image_Apply [(.tmp 12), (.tmp 13)]), none⟩,
  ⟨(.tmp 11), (.r (.mov (.tmp 14))), none⟩,
  ⟨(.tmp 15), (.r (.ext (.tmp 11) 0)), none⟩,
  ⟨(.tmp 16), (.r (.ext (.tmp 11) 1)), none⟩,
  ⟨(.loc 3), (.h (.mk [.nils, .nils])), none⟩,
  ⟨.none, (.h (.store 2 (.loc 3) (.tmp 15))), none⟩,
  ⟨(.loc 4), (.r (.mov (.tmp 16))), none⟩])
 (.seq (.dreg ⟨[0, 1, 3, 7, 7, 31, 63, 127, 255, 511, 1023, 2047, 4095, 8191, 16383, 32767, 65535, 131071, 262143, 524287, 1048575, 2097151, 4194303, 8388607, 16777215, 33554431, 67108863, 134217727, 268435455, 536870911, 1073741823, 2147483647, 4294967295, 8589934591, 17179869183, 34359738367, 68719476735, 137438953471, 274877906943, 549755813887, 1099511627775, 2199023255551, 4398046511103, 8796093022207], 0, [⟨0, 0, false, (.r (.mov (.loc 2))), none⟩,
  ⟨1, 0, false, (.r (.bin .eql (.tmp 0) (.cst (.int .i64 0)))), none⟩,
  ⟨2, 0, false, (.r (.mov (.tmp 1))), none⟩,
  ⟨3, 0, false, (.r (.load true 2 (.loc 1))), (some ((.tmp 2), true))⟩,
  ⟨4, 0, true, (.call f_glebelaw13_first []), (some ((.tmp 2), true))⟩,
  ⟨5, 0, true, (.call f_glebekit_SameImage [(.tmp 3), (.tmp 4)]), (some ((.tmp 2), true))⟩,
  ⟨6, 0, false, (.r (.pick (.tmp 2) (.tmp 5) (.cst (.bool false)))), none⟩,
  ⟨7, 0, false, (.r (.mov (.tmp 6))), none⟩,
  ⟨8, 0, false, (.r (.mov (.loc 4))), (some ((.tmp 7), true))⟩,
  ⟨9, 0, false, (.r (.bin .eql (.tmp 8) (.cst (.int .i64 0)))), (some ((.tmp 7), true))⟩,
  ⟨10, 0, false, (.r (.pick (.tmp 7) (.tmp 9) (.cst (.bool false)))), none⟩,
  ⟨11, 0, false, (.r (.mov (.tmp 10))), none⟩,
  ⟨12, 0, false, (.r (.off 0 (.loc 3))), (some ((.tmp 11), true))⟩,
  ⟨13, 0, false, (.r (.load false 1 (.tmp 12))), (some ((.tmp 11), true))⟩,
  ⟨14, 0, false, (.r (.len (.tmp 13))), (some ((.tmp 11), true))⟩,
  ⟨15, 0, false, (.r (.bin .eql (.tmp 14) (.cst (.int .i64 1)))), (some ((.tmp 11), true))⟩,
  ⟨16, 0, false, (.r (.pick (.tmp 11) (.tmp 15) (.cst (.bool false)))), none⟩,
  ⟨17, 0, false, (.r (.mov (.tmp 16))), none⟩,
  ⟨18, 0, false, (.r (.off 0 (.loc 3))), (some ((.tmp 17), true))⟩,
  ⟨19, 0, false, (.r (.load false 1 (.tmp 18))), (some ((.tmp 17), true))⟩,
  ⟨20, 0, false, (.r (.idx 10 (.tmp 19) (.cst (.int .i64 0)))), (some ((.tmp 17), true))⟩,
  ⟨21, 0, false, (.r (.off 1 (.tmp 20))), (some ((.tmp 17), true))⟩,
  ⟨22, 0, false, (.r (.load false 1 (.tmp 21))), (some ((.tmp 17), true))⟩,
  ⟨23, 0, false, (.r (.bin .eql (.tmp 22) (.cst (.int .i64 8)))), (some ((.tmp 17), true))⟩,
  ⟨24, 0, false, (.r (.pick (.tmp 17) (.tmp 23) (.cst (.bool false)))), none⟩,
  ⟨25, 0, false, (.r (.mov (.tmp 24))), none⟩,
  ⟨26, 0, false, (.r (.off 0 (.loc 3))), (some ((.tmp 25), true))⟩,
  ⟨27, 0, false, (.r (.load false 1 (.tmp 26))), (some ((.tmp 25), true))⟩,
  ⟨28, 0, false, (.r (.idx 10 (.tmp 27) (.cst (.int .i64 0)))), (some ((.tmp 25), true))⟩,
  ⟨29, 0, false, (.r (.off 2 (.tmp 28))), (some ((.tmp 25), true))⟩,
  ⟨30, 0, false, (.r (.load false 1 (.tmp 29))), (some ((.tmp 25), true))⟩,
  ⟨31, 0, false, (.r (.bin .eql (.tmp 30) (.cst (.int .i64 3)))), (some ((.tmp 25), true))⟩,
  ⟨32, 0, false, (.r (.pick (.tmp 25) (.tmp 31) (.cst (.bool false)))), none⟩,
  ⟨33, 0, false, (.r (.mov (.tmp 32))), none⟩,
  ⟨34, 0, false, (.r (.off 0 (.loc 3))), (some ((.tmp 33), true))⟩,
  ⟨35, 0, false, (.r (.load false 1 (.tmp 34))), (some ((.tmp 33), true))⟩,
  ⟨36, 0, false, (.r (.idx 10 (.tmp 35) (.cst (.int .i64 0)))), (some ((.tmp 33), true))⟩,
  ⟨37, 0, false, (.r (.off 3 (.tmp 36))), (some ((.tmp 33), true))⟩,
  ⟨38, 0, false, (.r (.off 2 (.tmp 37))), (some ((.tmp 33), true))⟩,
  ⟨39, 0, false, (.r (.load false 1 (.tmp 38))), (some ((.tmp 33), true))⟩,
  ⟨40, 0, false, (.r (.len (.tmp 39))), (some ((.tmp 33), true))⟩,
  ⟨41, 0, false, (.r (.bin .eql (.tmp 40) (.cst (.int .i64 3)))), (some ((.tmp 33), true))⟩,
  ⟨42, 0, false, (.r (.pick (.tmp 33) (.tmp 41) (.cst (.bool false)))), none⟩,
  ⟨43, 0, false, (.r (.mov (.tmp 42))), none⟩], [(0, 43)]⟩)
 .ret)))), [(.tmp (.loc 0))]⟩

/-- glebe/glebelaw13.few -/
def c_glebelaw13_few (f_glebekit_BigEntries : FuncId) (f_glebekit_BigConf : FuncId) : AFn := ⟨20, fun s => List.contains [0, 1, 2] s, (.seq (.reg [⟨(.loc 1), (.h (.box (.loc 0))), none⟩,
  ⟨(.loc 2), (.r (.mov (.cst (.bool false)))), none⟩])
 (.seq (.reg [⟨(.tmp 3), (.r (.off 5 (.loc 1))), none⟩,
  ⟨(.tmp 4), (.r (.off 2 (.tmp 3))), none⟩,
  ⟨(.tmp 5), (.r (.load false 1 (.tmp 4))), none⟩,
  ⟨(.tmp 6), (.call f_glebekit_BigEntries [(.tmp 5), (.cst (.int .i64 100)), (.cst (.int .i64 16384))]), none⟩,
  ⟨(.tmp 7), (.r (.not (.tmp 6))), none⟩,
  ⟨(.tmp 8), (.r (.mov (.tmp 7))), none⟩,
  ⟨(.tmp 9), (.r (.off 8 (.loc 1))), (some ((.tmp 8), true))⟩,
  ⟨(.tmp 10), (.r (.load true 3 (.tmp 9))), (some ((.tmp 8), true))⟩,
  ⟨(.tmp 11), (.call f_glebekit_BigConf [(.tmp 10), (.cst (.int .i64 100))]), (some ((.tmp 8), true))⟩,
  ⟨(.tmp 12), (.r (.not (.tmp 11))), (some ((.tmp 8), true))⟩,
  ⟨(.tmp 13), (.r (.pick (.tmp 8) (.tmp 12) (.cst (.bool false)))), none⟩,
  ⟨(.tmp 14), (.r (.mov (.tmp 13))), none⟩,
  ⟨(.tmp 15), (.r (.off 11 (.loc 1))), (some ((.tmp 14), true))⟩,
  ⟨(.tmp 16), (.r (.load false 1 (.tmp 15))), (some ((.tmp 14), true))⟩,
  ⟨(.tmp 17), (.r (.len (.tmp 16))), (some ((.tmp 14), true))⟩,
  ⟨(.tmp 18), (.r (.bin .leq (.tmp 17) (.cst (.int .i64 16384)))), (some ((.tmp 14), true))⟩,
  ⟨(.tmp 19), (.r (.pick (.tmp 14) (.tmp 18) (.cst (.bool false)))), none⟩,
  ⟨(.loc 2), (.r (.mov (.tmp 19))), none⟩])
 .ret)), [(.tmp (.loc 2))]⟩

/-- glebe/glebelaw13.first -/
def c_glebelaw13_first : AFn := ⟨16, fun s => List.contains [0, 1] s, (.seq (.reg [⟨(.loc 0), (.h (.mk [.nils, .nils])), none⟩])
 (.seq (.reg [⟨(.tmp 2), (.h (.bsl 1 [(.cst (.int .u8 1))])), none⟩,
  ⟨(.tmp 3), (.r (.build [(.int .i64 0), (.int .i64 0), .nils] [(0, 1, (.cst (.int .i64 2))), (2, 1, (.tmp 2))])), none⟩,
  ⟨(.tmp 4), (.r (.build [(.int .i64 0), (.int .i64 0), .nils] [(0, 1, (.cst (.int .i64 3)))])), none⟩,
  ⟨(.tmp 5), (.h (.bsl 1 [(.cst (.int .u8 2)), (.cst (.int .u8 3))])), none⟩,
  ⟨(.tmp 6), (.r (.build [(.int .i64 0), (.int .i64 0), .nils] [(0, 1, (.cst (.int .i64 3))), (2, 1, (.tmp 5))])), none⟩,
  ⟨(.tmp 7), (.h (.bsl 3 [(.tmp 3), (.tmp 4), (.tmp 6)])), none⟩,
  ⟨(.tmp 8), (.r (.build [(.int .i64 0), (.int .i64 0), .nils] [(0, 1, (.cst (.int .i64 4))), (1, 1, (.cst (.int .i64 2))), (2, 1, (.tmp 7))])), none⟩,
  ⟨(.loc 1), (.h (.mk [(.int .i64 0), (.int .i64 0), .nils])), none⟩,
  ⟨.none, (.h (.store 3 (.loc 1) (.tmp 8))), none⟩])
 (.seq (.reg [⟨(.tmp 9), (.r (.load true 3 (.loc 1))), none⟩,
  ⟨(.tmp 10), (.h (.bsl 1 [(.cst (.int .i64 1)), (.cst (.int .i64 2)), (.cst (.int .i64 3))])), none⟩,
  ⟨(.tmp 11), (.r (.build [.nils, .nils, .nils] [(0, 1, (.tmp 10))])), none⟩,
  ⟨(.tmp 12), (.h (.bsl 1 [(.cst (.int .u8 9))])), none⟩,
  ⟨(.tmp 13), (.r (.build [(.int .i64 0), (.int .i64 0), (.int .i64 0), (.int .i64 0), (.int .i64 0), .nils, .nils, .nils, .nils, .nils] [(0, 1, (.cst (.int .i64 1))), (1, 1, (.cst (.int .i64 3))), (2, 1, (.cst (.int .i64 2))), (3, 3, (.tmp 9)), (6, 3, (.tmp 11)), (9, 1, (.tmp 12))])), none⟩,
  ⟨(.tmp 14), (.h (.bsl 10 [(.tmp 13)])), none⟩,
  ⟨(.tmp 15), (.r (.build [.nils, .nils] [(0, 1, (.tmp 14))])), none⟩,
  ⟨.none, (.h (.store 2 (.loc 0) (.tmp 15))), none⟩])
 .ret))), [(.cell (.loc 0) true 2)]⟩

def c_glebelaw13_ImageBack_l0 (f_glebelaw13_Few : FuncId) (f_glebelaw13_known : FuncId) (f_glebelaw13_few : FuncId) (f_image_Put : FuncId) (f_image_Get : FuncId) (f_glebelaw13_ordered : FuncId) (f_glebekit_Pick : FuncId) (f_image_PutChanges : FuncId) (f_image_GetChanges : FuncId) (f_glebekit_CopyBytes : FuncId) (f_glebekit_SameImage : FuncId) (f_glebekit_SameChanges : FuncId) : AC := (.seq (.seq (.reg [⟨(.tmp 29), (.r (.mov (.loc 7))), none⟩,
  ⟨(.tmp 30), (.r (.mov (.loc 1))), none⟩,
  ⟨(.tmp 31), (.r (.len (.tmp 30))), none⟩,
  ⟨(.loc 32), (.r (.bin .lss (.tmp 29) (.tmp 31))), none⟩])
 (.cond (.loc 32) .skip
 (.exit 0)))
 (.seq (.block 1 (.seq (.reg [⟨(.tmp 35), (.r (.mov (.loc 1))), none⟩,
  ⟨(.tmp 36), (.r (.mov (.loc 7))), none⟩,
  ⟨(.tmp 37), (.r (.idx 17 (.tmp 35) (.tmp 36))), none⟩,
  ⟨(.tmp 38), (.r (.load true 17 (.tmp 37))), none⟩,
  ⟨(.tmp 39), (.call f_glebelaw13_few [(.tmp 38)]), none⟩,
  ⟨(.loc 40), (.r (.not (.tmp 39))), none⟩])
 (.cond (.loc 40) (.seq (.reg [⟨(.tmp 41), (.call f_glebelaw13_known []), none⟩,
  ⟨(.loc 6), (.r (.mov (.tmp 41))), none⟩])
 .ret)
 .skip)))
 (.reg [⟨(.tmp 33), (.r (.mov (.loc 7))), none⟩,
  ⟨(.tmp 34), (.r (.bin .add (.tmp 33) (.cst (.int .i64 1)))), none⟩,
  ⟨(.loc 7), (.r (.mov (.tmp 34))), none⟩])))
/-- glebe/glebelaw13.ImageBack -/
def c_glebelaw13_ImageBack (f_glebelaw13_Few : FuncId) (f_glebelaw13_known : FuncId) (f_glebelaw13_few : FuncId) (f_image_Put : FuncId) (f_image_Get : FuncId) (f_glebelaw13_ordered : FuncId) (f_glebekit_Pick : FuncId) (f_image_PutChanges : FuncId) (f_image_GetChanges : FuncId) (f_glebekit_CopyBytes : FuncId) (f_glebekit_SameImage : FuncId) (f_glebekit_SameChanges : FuncId) : AFn := ⟨133, fun s => List.contains [0, 1, 2, 3, 6, 7, 8, 9, 10, 12, 13, 14, 15, 17, 19, 27, 32, 40, 51] s, (.seq (.reg [⟨(.loc 3), (.h (.box (.loc 0))), none⟩,
  ⟨(.loc 6), (.r (.mov (.cst (.bool false)))), none⟩])
 (.seq (.seq (.reg [⟨(.tmp 20), (.r (.load true 2 (.loc 3))), none⟩,
  ⟨(.tmp 21), (.call f_glebelaw13_Few [(.tmp 20)]), none⟩,
  ⟨(.tmp 22), (.r (.not (.tmp 21))), none⟩,
  ⟨(.tmp 23), (.r (.mov (.tmp 22))), none⟩,
  ⟨(.tmp 24), (.r (.mov (.loc 1))), (some ((.tmp 23), false))⟩,
  ⟨(.tmp 25), (.r (.len (.tmp 24))), (some ((.tmp 23), false))⟩,
  ⟨(.tmp 26), (.r (.bin .gtr (.tmp 25) (.cst (.int .i64 20)))), (some ((.tmp 23), false))⟩,
  ⟨(.loc 27), (.r (.pick (.tmp 23) (.cst (.bool true)) (.tmp 26))), none⟩])
 (.cond (.loc 27) (.seq (.reg [⟨(.tmp 28), (.call f_glebelaw13_known []), none⟩,
  ⟨(.loc 6), (.r (.mov (.tmp 28))), none⟩])
 .ret)
 .skip))
 (.seq (.seq (.reg [⟨(.loc 7), (.r (.mov (.cst (.int .i64 0)))), none⟩])
 (.block 0 (.loop (c_glebelaw13_ImageBack_l0 f_glebelaw13_Few f_glebelaw13_known f_glebelaw13_few f_image_Put f_image_Get f_glebelaw13_ordered f_glebekit_Pick f_image_PutChanges f_image_GetChanges f_glebekit_CopyBytes f_glebekit_SameImage f_glebekit_SameChanges))))
 (.seq (.reg [⟨(.tmp 42), (.r (.load true 2 (.loc 3))), none⟩,
  ⟨(.tmp 43), (.call f_image_Put [(.tmp 42)]), none⟩,
  ⟨(.loc 8), (.r (.mov (.tmp 43))), none⟩])
 (.seq (.reg [⟨(.tmp 45), (.r (.mov (.loc 8))), none⟩,
  ⟨(.tmp 46), (.call f_image_Get [(.tmp 45)]), none⟩,
  ⟨(.tmp 44), (.r (.mov (.tmp 46))), none⟩,
  ⟨(.tmp 47), (.r (.ext (.tmp 44) 0)), none⟩,
  ⟨(.tmp 48), (.r (.ext (.tmp 44) 1)), none⟩,
  ⟨(.loc 9), (.h (.mk [.nils, .nils])), none⟩,
  ⟨.none, (.h (.store 2 (.loc 9) (.tmp 47))), none⟩,
  ⟨(.loc 10), (.r (.mov (.tmp 48))), none⟩])
 (.seq (.seq (.reg [⟨(.tmp 49), (.r (.load true 2 (.loc 3))), none⟩,
  ⟨(.tmp 50), (.call f_glebelaw13_ordered [(.tmp 49)]), none⟩,
  ⟨(.loc 51), (.r (.not (.tmp 50))), none⟩])
 (.cond (.loc 51) (.seq (.reg [⟨(.tmp 52), (.r (.mov (.loc 10))), none⟩,
  ⟨(.tmp 53), (.r (.bin .eql (.tmp 52) (.cst (.int .i64 15)))), none⟩,
  ⟨(.tmp 54), (.r (.mov (.tmp 53))), none⟩,
  ⟨(.tmp 55), (.r (.off 0 (.loc 9))), (some ((.tmp 54), true))⟩,
  ⟨(.tmp 56), (.r (.load false 1 (.tmp 55))), (some ((.tmp 54), true))⟩,
  ⟨(.tmp 57), (.r (.len (.tmp 56))), (some ((.tmp 54), true))⟩,
  ⟨(.tmp 58), (.r (.off 1 (.loc 9))), (some ((.tmp 54), true))⟩,
  ⟨(.tmp 59), (.r (.load false 1 (.tmp 58))), (some ((.tmp 54), true))⟩,
  ⟨(.tmp 60), (.r (.len (.tmp 59))), (some ((.tmp 54), true))⟩,
  ⟨(.tmp 61), (.r (.bin .add (.tmp 57) (.tmp 60))), (some ((.tmp 54), true))⟩,
  ⟨(.tmp 62), (.r (.bin .eql (.tmp 61) (.cst (.int .i64 0)))), (some ((.tmp 54), true))⟩,
  ⟨(.tmp 63), (.r (.pick (.tmp 54) (.tmp 62) (.cst (.bool false)))), none⟩,
  ⟨(.tmp 64), (.r (.mov (.tmp 63))), none⟩,
  ⟨(.tmp 65), (.call f_glebelaw13_known []), (some ((.tmp 64), true))⟩,
  ⟨(.tmp 66), (.r (.pick (.tmp 64) (.tmp 65) (.cst (.bool false)))), none⟩,
  ⟨(.loc 6), (.r (.mov (.tmp 66))), none⟩])
 .ret)
 .skip))
 (.seq (.reg [⟨(.tmp 68), (.r (.mov (.loc 8))), none⟩,
  ⟨(.tmp 69), (.r (.mov (.loc 2))), none⟩,
  ⟨(.tmp 70), (.r (.mov (.loc 8))), none⟩,
  ⟨(.tmp 71), (.r (.len (.tmp 70))), none⟩,
  ⟨(.tmp 72), (.call f_glebekit_Pick [(.tmp 69), (.tmp 71)]), none⟩,
  ⟨(.tmp 73), (.r (.slc 1 (.tmp 68) none (some (.tmp 72)) none)), none⟩,
  ⟨(.tmp 74), (.call f_image_Get [(.tmp 73)]), none⟩,
  ⟨(.tmp 67), (.r (.mov (.tmp 74))), none⟩,
  ⟨(.tmp 75), (.r (.ext (.tmp 67) 0)), none⟩,
  ⟨(.tmp 76), (.r (.ext (.tmp 67) 1)), none⟩,
  ⟨(.tmp 11), (.h (.mk [.nils, .nils])), none⟩,
  ⟨.none, (.h (.store 2 (.tmp 11) (.tmp 75))), none⟩,
  ⟨(.loc 12), (.r (.mov (.tmp 76))), none⟩])
 (.seq (.reg [⟨(.tmp 77), (.r (.mov (.loc 1))), none⟩,
  ⟨(.tmp 78), (.call f_image_PutChanges [(.tmp 77)]), none⟩,
  ⟨(.loc 13), (.r (.mov (.tmp 78))), none⟩])
 (.seq (.reg [⟨(.tmp 80), (.r (.mov (.loc 13))), none⟩,
  ⟨(.tmp 81), (.call f_image_GetChanges [(.tmp 80)]), none⟩,
  ⟨(.tmp 79), (.r (.mov (.tmp 81))), none⟩,
  ⟨(.tmp 82), (.r (.ext (.tmp 79) 0)), none⟩,
  ⟨(.tmp 83), (.r (.ext (.tmp 79) 1)), none⟩,
  ⟨(.loc 14), (.r (.mov (.tmp 82))), none⟩,
  ⟨(.loc 15), (.r (.mov (.tmp 83))), none⟩])
 (.seq (.reg [⟨(.tmp 85), (.r (.mov (.loc 13))), none⟩,
  ⟨(.tmp 86), (.r (.mov (.loc 2))), none⟩,
  ⟨(.tmp 87), (.r (.mov (.loc 13))), none⟩,
  ⟨(.tmp 88), (.r (.len (.tmp 87))), none⟩,
  ⟨(.tmp 89), (.call f_glebekit_Pick [(.tmp 86), (.tmp 88)]), none⟩,
  ⟨(.tmp 90), (.r (.slc 1 (.tmp 85) none (some (.tmp 89)) none)), none⟩,
  ⟨(.tmp 91), (.call f_image_GetChanges [(.tmp 90)]), none⟩,
  ⟨(.tmp 84), (.r (.mov (.tmp 91))), none⟩,
  ⟨(.tmp 92), (.r (.ext (.tmp 84) 0)), none⟩,
  ⟨(.tmp 93), (.r (.ext (.tmp 84) 1)), none⟩,
  ⟨(.tmp 16), (.r (.mov (.tmp 92))), none⟩,
  ⟨(.loc 17), (.r (.mov (.tmp 93))), none⟩])
 (.seq (.reg [⟨(.tmp 95), (.r (.mov (.loc 13))), none⟩,
  ⟨(.tmp 96), (.call f_glebekit_CopyBytes [(.tmp 95)]), none⟩,
  ⟨(.tmp 97), (.h (.bsl 1 [(.cst (.int .u8 0))])), none⟩,
  ⟨(.tmp 98), (.h (.app 1 1 (.tmp 96) (.tmp 97))), none⟩,
  ⟨(.tmp 99), (.call f_image_GetChanges [(.tmp 98)]), none⟩,
  ⟨(.tmp 94), (.r (.mov (.tmp 99))), none⟩,
  ⟨(.tmp 100), (.r (.ext (.tmp 94) 0)), none⟩,
  ⟨(.tmp 101), (.r (.ext (.tmp 94) 1)), none⟩,
  ⟨(.tmp 18), (.r (.mov (.tmp 100))), none⟩,
  ⟨(.loc 19), (.r (.mov (.tmp 101))), none⟩])
 (.seq (.reg [⟨(.tmp 102), (.r (.mov (.loc 10))), none⟩,
  ⟨(.tmp 103), (.r (.bin .eql (.tmp 102) (.cst (.int .i64 0)))), none⟩,
  ⟨(.tmp 104), (.r (.mov (.tmp 103))), none⟩,
  ⟨(.tmp 105), (.r (.load true 2 (.loc 3))), (some ((.tmp 104), true))⟩,
  ⟨(.tmp 106), (.r (.load true 2 (.loc 9))), (some ((.tmp 104), true))⟩,
  ⟨(.tmp 107), (.call f_glebekit_SameImage [(.tmp 105), (.tmp 106)]), (some ((.tmp 104), true))⟩,
  ⟨(.tmp 108), (.r (.pick (.tmp 104) (.tmp 107) (.cst (.bool false)))), none⟩,
  ⟨(.tmp 109), (.r (.mov (.tmp 108))), none⟩,
  ⟨(.tmp 110), (.r (.mov (.loc 12))), (some ((.tmp 109), true))⟩,
  ⟨(.tmp 111), (.r (.bin .eql (.tmp 110) (.cst (.int .i64 4)))), (some ((.tmp 109), true))⟩,
  ⟨(.tmp 112), (.r (.pick (.tmp 109) (.tmp 111) (.cst (.bool false)))), none⟩,
  ⟨(.tmp 113), (.r (.mov (.tmp 112))), none⟩,
  ⟨(.tmp 114), (.r (.mov (.loc 15))), (some ((.tmp 113), true))⟩,
  ⟨(.tmp 115), (.r (.bin .eql (.tmp 114) (.cst (.int .i64 0)))), (some ((.tmp 113), true))⟩,
  ⟨(.tmp 116), (.r (.pick (.tmp 113) (.tmp 115) (.cst (.bool false)))), none⟩,
  ⟨(.tmp 117), (.r (.mov (.tmp 116))), none⟩,
  ⟨(.tmp 118), (.r (.mov (.loc 1))), (some ((.tmp 117), true))⟩,
  ⟨(.tmp 119), (.r (.mov (.loc 14))), (some ((.tmp 117), true))⟩,
  ⟨(.tmp 120), (.call f_glebekit_SameChanges [(.tmp 118), (.tmp 119)]), (some ((.tmp 117), true))⟩,
  ⟨(.tmp 121), (.r (.pick (.tmp 117) (.tmp 120) (.cst (.bool false)))), none⟩,
  ⟨(.tmp 122), (.r (.mov (.tmp 121))), none⟩,
  ⟨(.tmp 123), (.r (.mov (.loc 17))), (some ((.tmp 122), true))⟩,
  ⟨(.tmp 124), (.r (.bin .eql (.tmp 123) (.cst (.int .i64 4)))), (some ((.tmp 122), true))⟩,
  ⟨(.tmp 125), (.r (.pick (.tmp 122) (.tmp 124) (.cst (.bool false)))), none⟩,
  ⟨(.tmp 126), (.r (.mov (.tmp 125))), none⟩,
  ⟨(.tmp 127), (.r (.mov (.loc 19))), (some ((.tmp 126), true))⟩,
  ⟨(.tmp 128), (.r (.bin .eql (.tmp 127) (.cst (.int .i64 2)))), (some ((.tmp 126), true))⟩,
  ⟨(.tmp 129), (.r (.pick (.tmp 126) (.tmp 128) (.cst (.bool false)))), none⟩,
  ⟨(.tmp 130), (.r (.mov (.tmp 129))), none⟩,
  ⟨(.tmp 131), (.call f_glebelaw13_known []), (some ((.tmp 130), true))⟩,
  ⟨(.tmp 132), (.r (.pick (.tmp 130) (.tmp 131) (.cst (.bool false)))), none⟩,
  ⟨(.loc 6), (.r (.mov (.tmp 132))), none⟩])
 .ret)))))))))))), [(.tmp (.loc 6))]⟩

def c_glebelaw13_ordered_l0 : AC := (.seq (.seq (.reg [⟨(.tmp 7), (.r (.mov (.loc 3))), none⟩,
  ⟨(.tmp 8), (.r (.off 0 (.loc 1))), none⟩,
  ⟨(.tmp 9), (.r (.load false 1 (.tmp 8))), none⟩,
  ⟨(.tmp 10), (.r (.len (.tmp 9))), none⟩,
  ⟨(.loc 11), (.r (.bin .lss (.tmp 7) (.tmp 10))), none⟩])
 (.cond (.loc 11) .skip
 (.exit 0)))
 (.seq (.block 1 (.seq (.dreg ⟨[0, 1, 0, 4, 15, 31, 63, 0, 128, 0, 896, 1920, 3968, 8191], 0, [⟨0, 0, false, (.r (.off 0 (.loc 1))), none⟩,
  ⟨1, 0, false, (.r (.load false 1 (.tmp 0))), none⟩,
  ⟨2, 0, false, (.r (.mov (.loc 3))), none⟩,
  ⟨3, 0, false, (.r (.bin .sub (.tmp 2) (.cst (.int .i64 1)))), none⟩,
  ⟨4, 0, false, (.r (.idx 10 (.tmp 1) (.tmp 3))), none⟩,
  ⟨5, 0, false, (.r (.off 0 (.tmp 4))), none⟩,
  ⟨6, 0, false, (.r (.load false 1 (.tmp 5))), none⟩,
  ⟨7, 0, false, (.r (.off 0 (.loc 1))), none⟩,
  ⟨8, 0, false, (.r (.load false 1 (.tmp 7))), none⟩,
  ⟨9, 0, false, (.r (.mov (.loc 3))), none⟩,
  ⟨10, 0, false, (.r (.idx 10 (.tmp 8) (.tmp 9))), none⟩,
  ⟨11, 0, false, (.r (.off 0 (.tmp 10))), none⟩,
  ⟨12, 0, false, (.r (.load false 1 (.tmp 11))), none⟩,
  ⟨13, 0, false, (.r (.bin .geq (.tmp 6) (.tmp 12))), none⟩], [(27, 13)]⟩)
 (.cond (.loc 27) (.seq (.reg [⟨(.loc 2), (.r (.mov (.cst (.bool false)))), none⟩])
 .ret)
 .skip)))
 (.reg [⟨(.tmp 12), (.r (.mov (.loc 3))), none⟩,
  ⟨(.tmp 13), (.r (.bin .add (.tmp 12) (.cst (.int .i64 1)))), none⟩,
  ⟨(.loc 3), (.r (.mov (.tmp 13))), none⟩])))
def c_glebelaw13_ordered_l1 : AC := (.seq (.seq (.reg [⟨(.tmp 28), (.r (.mov (.loc 4))), none⟩,
  ⟨(.tmp 29), (.r (.off 1 (.loc 1))), none⟩,
  ⟨(.tmp 30), (.r (.load false 1 (.tmp 29))), none⟩,
  ⟨(.tmp 31), (.r (.len (.tmp 30))), none⟩,
  ⟨(.loc 32), (.r (.bin .lss (.tmp 28) (.tmp 31))), none⟩])
 (.cond (.loc 32) .skip
 (.exit 2)))
 (.seq (.block 3 (.seq (.dreg ⟨[0, 1, 0, 4, 15, 31, 0, 64, 0, 448, 960, 0, 0, 6207, 16383], 2, [⟨0, 0, false, (.r (.off 1 (.loc 1))), none⟩,
  ⟨1, 0, false, (.r (.load false 1 (.tmp 0))), none⟩,
  ⟨2, 0, false, (.r (.mov (.loc 4))), none⟩,
  ⟨3, 0, false, (.r (.bin .sub (.tmp 2) (.cst (.int .i64 1)))), none⟩,
  ⟨4, 0, false, (.r (.idx 5 (.tmp 1) (.tmp 3))), none⟩,
  ⟨5, 0, false, (.r (.load true 5 (.tmp 4))), none⟩,
  ⟨6, 0, false, (.r (.off 1 (.loc 1))), none⟩,
  ⟨7, 0, false, (.r (.load false 1 (.tmp 6))), none⟩,
  ⟨8, 0, false, (.r (.mov (.loc 4))), none⟩,
  ⟨9, 0, false, (.r (.idx 5 (.tmp 7) (.tmp 8))), none⟩,
  ⟨10, 0, false, (.r (.load true 5 (.tmp 9))), none⟩,
  ⟨11, 0, false, (.h (.mk [(.int .i64 0), (.int .i64 0), (.int .i64 0), (.int .i64 0), (.int .i64 0)])), none⟩,
  ⟨12, 1, false, (.h (.mk [(.int .i64 0), (.int .i64 0), (.int .i64 0), (.int .i64 0), (.int .i64 0)])), none⟩,
  ⟨13, 2, true, (.h (.store 5 (.tmp 11) (.tmp 5))), none⟩,
  ⟨14, 2, true, (.h (.store 5 (.tmp 12) (.tmp 10))), none⟩], [(5, 11), (6, 12)]⟩)
 (.seq (.reg [⟨(.tmp 46), (.r (.off 0 (.loc 5))), none⟩,
  ⟨(.tmp 47), (.r (.load false 1 (.tmp 46))), none⟩,
  ⟨(.tmp 48), (.r (.off 0 (.loc 6))), none⟩,
  ⟨(.tmp 49), (.r (.load false 1 (.tmp 48))), none⟩,
  ⟨(.tmp 50), (.r (.bin .gtr (.tmp 47) (.tmp 49))), none⟩,
  ⟨(.tmp 51), (.r (.mov (.tmp 50))), none⟩,
  ⟨(.tmp 52), (.r (.off 0 (.loc 5))), (some ((.tmp 51), false))⟩,
  ⟨(.tmp 53), (.r (.load false 1 (.tmp 52))), (some ((.tmp 51), false))⟩,
  ⟨(.tmp 54), (.r (.off 0 (.loc 6))), (some ((.tmp 51), false))⟩,
  ⟨(.tmp 55), (.r (.load false 1 (.tmp 54))), (some ((.tmp 51), false))⟩,
  ⟨(.tmp 56), (.r (.bin .eql (.tmp 53) (.tmp 55))), (some ((.tmp 51), false))⟩,
  ⟨(.tmp 57), (.r (.mov (.tmp 56))), (some ((.tmp 51), false))⟩,
  ⟨(.tmp 58), (.r (.off 1 (.loc 5))), (some ((.tmp 57), true))⟩,
  ⟨(.tmp 59), (.r (.load false 1 (.tmp 58))), (some ((.tmp 57), true))⟩,
  ⟨(.tmp 60), (.r (.off 1 (.loc 6))), (some ((.tmp 57), true))⟩,
  ⟨(.tmp 61), (.r (.load false 1 (.tmp 60))), (some ((.tmp 57), true))⟩,
  ⟨(.tmp 62), (.r (.bin .geq (.tmp 59) (.tmp 61))), (some ((.tmp 57), true))⟩,
  ⟨(.tmp 63), (.r (.pick (.tmp 57) (.tmp 62) (.cst (.bool false)))), (some ((.tmp 51), false))⟩,
  ⟨(.loc 64), (.r (.pick (.tmp 51) (.cst (.bool true)) (.tmp 63))), none⟩])
 (.cond (.loc 64) (.seq (.reg [⟨(.loc 2), (.r (.mov (.cst (.bool false)))), none⟩])
 .ret)
 .skip))))
 (.reg [⟨(.tmp 33), (.r (.mov (.loc 4))), none⟩,
  ⟨(.tmp 34), (.r (.bin .add (.tmp 33) (.cst (.int .i64 1)))), none⟩,
  ⟨(.loc 4), (.r (.mov (.tmp 34))), none⟩])))
/-- glebe/glebelaw13.ordered -/
def c_glebelaw13_ordered : AFn := ⟨65, fun s => List.contains [0, 1, 2, 3, 4, 5, 6, 11, 27, 32, 64] s, (.seq (.reg [⟨(.loc 1), (.h (.box (.loc 0))), none⟩,
  ⟨(.loc 2), (.r (.mov (.cst (.bool false)))), none⟩])
 (.seq (.seq (.reg [⟨(.loc 3), (.r (.mov (.cst (.int .i64 1)))), none⟩])
 (.block 0 (.loop (c_glebelaw13_ordered_l0))))
 (.seq (.seq (.reg [⟨(.loc 4), (.r (.mov (.cst (.int .i64 1)))), none⟩])
 (.block 2 (.loop (c_glebelaw13_ordered_l1))))
 (.seq (.reg [⟨(.loc 2), (.r (.mov (.cst (.bool true)))), none⟩])
 .ret)))), [(.tmp (.loc 2))]⟩

end Glb
