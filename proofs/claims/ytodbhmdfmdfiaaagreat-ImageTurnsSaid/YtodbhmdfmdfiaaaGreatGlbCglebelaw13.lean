/-
  What functions of the program are, one by one (the functions that they call as parameters), in a form of which something can be shown.
-/
import Derived.Test.YtodbhmdfmdfiaaaGreatGlbLibB
set_option linter.unusedSimpArgs false
set_option linter.unusedVariables false
namespace Glb
open Go
set_option maxRecDepth 100000

def c_glebelaw13_ImageTurns_l0 (f_glebelaw13_Few : FuncId) (f_gleberef13_Ordered : FuncId) (f_glebelaw13_known : FuncId) (f_glebekit_CopyImage : FuncId) (f_glebelaw13_few : FuncId) (f_glebelaw13_bases : FuncId) (f_glebekit_CopyChange : FuncId) (f_image_Apply : FuncId) (f_gleberef13_Apply : FuncId) (f_glebekit_SameImage : FuncId) (f_glebekit_SameChange : FuncId) (f_glebekit_SpoilImage : FuncId) (f_glebekit_CopyChanges : FuncId) (f_image_PutChanges : FuncId) (f_gleberef13_PutChanges : FuncId) (f_glebekit_SameBytes : FuncId) : AC := (.seq (.seq (.reg [⟨(.tmp 29), (.r (.mov (.loc 6))), none⟩,
  ⟨(.tmp 30), (.r (.mov (.loc 1))), none⟩,
  ⟨(.tmp 31), (.r (.len (.tmp 30))), none⟩,
  ⟨(.loc 32), (.r (.bin .lss (.tmp 29) (.tmp 31))), none⟩])
 (.cond (.loc 32) .skip
 (.exit 0)))
 (.seq (.block 1 (.seq (.seq (.reg [⟨(.tmp 35), (.r (.mov (.loc 1))), none⟩,
  ⟨(.tmp 36), (.r (.mov (.loc 6))), none⟩,
  ⟨(.tmp 37), (.r (.idx 17 (.tmp 35) (.tmp 36))), none⟩,
  ⟨(.tmp 38), (.r (.load true 17 (.tmp 37))), none⟩,
  ⟨(.tmp 39), (.call f_glebelaw13_few [(.tmp 38)]), none⟩,
  ⟨(.loc 40), (.r (.not (.tmp 39))), none⟩])
 (.cond (.loc 40) (.seq (.reg [⟨(.tmp 41), (.call f_glebelaw13_known []), none⟩,
  ⟨(.loc 4), (.r (.mov (.tmp 41))), none⟩])
 .ret)
 .skip))
 (.seq (.seq (.reg [⟨(.tmp 42), (.r (.load true 2 (.loc 5))), none⟩,
  ⟨(.tmp 43), (.call f_glebelaw13_bases [(.tmp 42)]), none⟩,
  ⟨(.loc 44), (.r (.not (.tmp 43))), none⟩])
 (.cond (.loc 44) (.seq (.reg [⟨(.tmp 45), (.call f_glebelaw13_known []), none⟩,
  ⟨(.loc 4), (.r (.mov (.tmp 45))), none⟩])
 .ret)
 .skip))
 (.seq (.reg [⟨(.tmp 46), (.r (.load true 2 (.loc 5))), none⟩,
  ⟨(.tmp 47), (.call f_glebekit_CopyImage [(.tmp 46)]), none⟩,
  ⟨(.loc 7), (.h (.mk [.nils, .nils])), none⟩,
  ⟨.none, (.h (.store 2 (.loc 7) (.tmp 47))), none⟩])
 (.seq (.reg [⟨(.tmp 48), (.r (.mov (.loc 1))), none⟩,
  ⟨(.tmp 49), (.r (.mov (.loc 6))), none⟩,
  ⟨(.tmp 50), (.r (.idx 17 (.tmp 48) (.tmp 49))), none⟩,
  ⟨(.tmp 51), (.r (.load true 17 (.tmp 50))), none⟩,
  ⟨(.tmp 52), (.call f_glebekit_CopyChange [(.tmp 51)]), none⟩,
  ⟨(.loc 8), (.h (.mk [(.int .i64 0), (.int .i64 0), (.int .i64 0), (.int .i64 0), (.int .i64 0), (.int .i64 0), (.int .i64 0), .nils, .nils, .nils, .nils, .nils, (.int .i64 0), (.int .i64 0), (.int .i64 0), (.int .i64 0), (.int .i64 0)])), none⟩,
  ⟨.none, (.h (.store 17 (.loc 8) (.tmp 52))), none⟩])
 (.seq (.reg [⟨(.tmp 54), (.r (.load true 2 (.loc 7))), none⟩,
  ⟨(.tmp 55), (.r (.load true 17 (.loc 8))), none⟩,
  ⟨(.tmp 56), (.call f_image_Apply [(.tmp 54), (.tmp 55)]), none⟩,
  ⟨(.tmp 53), (.r (.mov (.tmp 56))), none⟩,
  ⟨(.tmp 57), (.r (.ext (.tmp 53) 0)), none⟩,
  ⟨(.tmp 58), (.r (.ext (.tmp 53) 1)), none⟩,
  ⟨(.loc 9), (.h (.mk [.nils, .nils])), none⟩,
  ⟨.none, (.h (.store 2 (.loc 9) (.tmp 57))), none⟩,
  ⟨(.loc 10), (.r (.mov (.tmp 58))), none⟩])
 (.seq (.dreg ⟨[0, 0, 0, 6, 14, 31, 63, 127, 127, 0, 767, 2047], 1, [⟨0, 0, false, (.r (.load true 2 (.loc 5))), none⟩,
  ⟨1, 0, false, (.r (.mov (.loc 1))), none⟩,
  ⟨2, 0, false, (.r (.mov (.loc 6))), none⟩,
  ⟨3, 0, false, (.r (.idx 17 (.tmp 1) (.tmp 2))), none⟩,
  ⟨4, 0, false, (.r (.load true 17 (.tmp 3))), none⟩,
  ⟨9, 0, false, (.h (.mk [.nils, .nils])), none⟩,
  ⟨5, 0, true, (.call f_gleberef13_Apply [(.tmp 0), (.tmp 4)]), none⟩,
  ⟨6, 0, false, (.r (.mov (.tmp 5))), none⟩,
  ⟨7, 0, false, (.r (.ext (.tmp 6) 0)), none⟩,
  ⟨8, 0, false, (.r (.ext (.tmp 6) 1)), none⟩,
  ⟨10, 1, true, (.h (.store 2 (.tmp 9) (.tmp 7))), none⟩,
  ⟨11, 1, false, (.r (.mov (.tmp 8))), none⟩], [(11, 9), (12, 11)]⟩)
 (.seq (.seq (.dreg ⟨[0, 0, 3, 7, 15, 15, 63, 127, 255, 511, 1023, 1023, 4095, 8191, 16383, 32767, 65535, 65535, 65535, 458751, 983039, 2097151, 4194303, 8388607], 0, [⟨0, 0, false, (.r (.mov (.loc 10))), none⟩,
  ⟨1, 0, false, (.r (.mov (.loc 12))), none⟩,
  ⟨2, 0, false, (.r (.bin .neq (.tmp 0) (.tmp 1))), none⟩,
  ⟨3, 0, false, (.r (.mov (.tmp 2))), none⟩,
  ⟨4, 0, false, (.r (.load true 2 (.loc 9))), (some ((.tmp 3), false))⟩,
  ⟨5, 0, false, (.r (.load true 2 (.loc 11))), (some ((.tmp 3), false))⟩,
  ⟨6, 0, true, (.call f_glebekit_SameImage [(.tmp 4), (.tmp 5)]), (some ((.tmp 3), false))⟩,
  ⟨7, 0, false, (.r (.not (.tmp 6))), (some ((.tmp 3), false))⟩,
  ⟨8, 0, false, (.r (.pick (.tmp 3) (.cst (.bool true)) (.tmp 7))), none⟩,
  ⟨9, 0, false, (.r (.mov (.tmp 8))), none⟩,
  ⟨10, 0, false, (.r (.load true 2 (.loc 7))), (some ((.tmp 9), false))⟩,
  ⟨11, 0, false, (.r (.load true 2 (.loc 5))), (some ((.tmp 9), false))⟩,
  ⟨12, 0, true, (.call f_glebekit_SameImage [(.tmp 10), (.tmp 11)]), (some ((.tmp 9), false))⟩,
  ⟨13, 0, false, (.r (.not (.tmp 12))), (some ((.tmp 9), false))⟩,
  ⟨14, 0, false, (.r (.pick (.tmp 9) (.cst (.bool true)) (.tmp 13))), none⟩,
  ⟨15, 0, false, (.r (.mov (.tmp 14))), none⟩,
  ⟨16, 0, false, (.r (.load true 17 (.loc 8))), (some ((.tmp 15), false))⟩,
  ⟨17, 0, false, (.r (.mov (.loc 1))), (some ((.tmp 15), false))⟩,
  ⟨18, 0, false, (.r (.mov (.loc 6))), (some ((.tmp 15), false))⟩,
  ⟨19, 0, false, (.r (.idx 17 (.tmp 17) (.tmp 18))), (some ((.tmp 15), false))⟩,
  ⟨20, 0, false, (.r (.load true 17 (.tmp 19))), (some ((.tmp 15), false))⟩,
  ⟨21, 0, true, (.call f_glebekit_SameChange [(.tmp 16), (.tmp 20)]), (some ((.tmp 15), false))⟩,
  ⟨22, 0, false, (.r (.not (.tmp 21))), (some ((.tmp 15), false))⟩,
  ⟨23, 0, false, (.r (.pick (.tmp 15) (.cst (.bool true)) (.tmp 22))), none⟩], [(91, 23)]⟩)
 (.cond (.loc 91) (.seq (.reg [⟨(.loc 4), (.r (.mov (.cst (.bool false)))), none⟩])
 .ret)
 .skip))
 (.seq (.reg [⟨(.tmp 92), (.r (.load true 2 (.loc 9))), none⟩,
  ⟨(.tmp 93), (.call f_glebekit_SpoilImage [(.tmp 92)]), none⟩])
 (.seq (.seq (.dreg ⟨[0, 0, 3, 7, 15, 31, 31, 31, 223, 479, 1023, 2047, 4095], 0, [⟨0, 0, false, (.r (.load true 2 (.loc 7))), none⟩,
  ⟨1, 0, false, (.r (.load true 2 (.loc 5))), none⟩,
  ⟨2, 0, true, (.call f_glebekit_SameImage [(.tmp 0), (.tmp 1)]), none⟩,
  ⟨3, 0, false, (.r (.not (.tmp 2))), none⟩,
  ⟨4, 0, false, (.r (.mov (.tmp 3))), none⟩,
  ⟨5, 0, false, (.r (.load true 17 (.loc 8))), (some ((.tmp 4), false))⟩,
  ⟨6, 0, false, (.r (.mov (.loc 1))), (some ((.tmp 4), false))⟩,
  ⟨7, 0, false, (.r (.mov (.loc 6))), (some ((.tmp 4), false))⟩,
  ⟨8, 0, false, (.r (.idx 17 (.tmp 6) (.tmp 7))), (some ((.tmp 4), false))⟩,
  ⟨9, 0, false, (.r (.load true 17 (.tmp 8))), (some ((.tmp 4), false))⟩,
  ⟨10, 0, true, (.call f_glebekit_SameChange [(.tmp 5), (.tmp 9)]), (some ((.tmp 4), false))⟩,
  ⟨11, 0, false, (.r (.not (.tmp 10))), (some ((.tmp 4), false))⟩,
  ⟨12, 0, false, (.r (.pick (.tmp 4) (.cst (.bool true)) (.tmp 11))), none⟩], [(106, 12)]⟩)
 (.cond (.loc 106) (.seq (.reg [⟨(.loc 4), (.r (.mov (.cst (.bool false)))), none⟩])
 .ret)
 .skip))
 (.seq (.reg [⟨(.tmp 107), (.r (.mov (.loc 10))), none⟩,
  ⟨(.loc 108), (.r (.bin .eql (.tmp 107) (.cst (.int .i64 0)))), none⟩])
 (.cond (.loc 108) (.reg [⟨(.tmp 109), (.r (.load true 2 (.loc 11))), none⟩,
  ⟨.none, (.h (.store 2 (.loc 5) (.tmp 109))), none⟩])
 .skip))))))))))))
 (.reg [⟨(.tmp 33), (.r (.mov (.loc 6))), none⟩,
  ⟨(.tmp 34), (.r (.bin .add (.tmp 33) (.cst (.int .i64 1)))), none⟩,
  ⟨(.loc 6), (.r (.mov (.tmp 34))), none⟩])))
/-- glebe/glebelaw13.ImageTurns -/
def c_glebelaw13_ImageTurns (f_glebelaw13_Few : FuncId) (f_gleberef13_Ordered : FuncId) (f_glebelaw13_known : FuncId) (f_glebekit_CopyImage : FuncId) (f_glebelaw13_few : FuncId) (f_glebelaw13_bases : FuncId) (f_glebekit_CopyChange : FuncId) (f_image_Apply : FuncId) (f_gleberef13_Apply : FuncId) (f_glebekit_SameImage : FuncId) (f_glebekit_SameChange : FuncId) (f_glebekit_SpoilImage : FuncId) (f_glebekit_CopyChanges : FuncId) (f_image_PutChanges : FuncId) (f_gleberef13_PutChanges : FuncId) (f_glebekit_SameBytes : FuncId) : AFn := ⟨116, fun s => List.contains [0, 1, 2, 4, 5, 6, 7, 8, 9, 10, 11, 12, 25, 32, 40, 44, 91, 106, 108] s, (.seq (.reg [⟨(.loc 2), (.h (.box (.loc 0))), none⟩,
  ⟨(.loc 4), (.r (.mov (.cst (.bool false)))), none⟩])
 (.seq (.seq (.reg [⟨(.tmp 13), (.r (.load true 2 (.loc 2))), none⟩,
  ⟨(.tmp 14), (.call f_glebelaw13_Few [(.tmp 13)]), none⟩,
  ⟨(.tmp 15), (.r (.not (.tmp 14))), none⟩,
  ⟨(.tmp 16), (.r (.mov (.tmp 15))), none⟩,
  ⟨(.tmp 17), (.r (.load true 2 (.loc 2))), (some ((.tmp 16), false))⟩,
  ⟨(.tmp 18), (.call f_gleberef13_Ordered [(.tmp 17)]), (some ((.tmp 16), false))⟩,
  ⟨(.tmp 19), (.r (.not (.tmp 18))), (some ((.tmp 16), false))⟩,
  ⟨(.tmp 20), (.r (.pick (.tmp 16) (.cst (.bool true)) (.tmp 19))), none⟩,
  ⟨(.tmp 21), (.r (.mov (.tmp 20))), none⟩,
  ⟨(.tmp 22), (.r (.mov (.loc 1))), (some ((.tmp 21), false))⟩,
  ⟨(.tmp 23), (.r (.len (.tmp 22))), (some ((.tmp 21), false))⟩,
  ⟨(.tmp 24), (.r (.bin .gtr (.tmp 23) (.cst (.int .i64 20)))), (some ((.tmp 21), false))⟩,
  ⟨(.loc 25), (.r (.pick (.tmp 21) (.cst (.bool true)) (.tmp 24))), none⟩])
 (.cond (.loc 25) (.seq (.reg [⟨(.tmp 26), (.call f_glebelaw13_known []), none⟩,
  ⟨(.loc 4), (.r (.mov (.tmp 26))), none⟩])
 .ret)
 .skip))
 (.seq (.reg [⟨(.tmp 27), (.r (.load true 2 (.loc 2))), none⟩,
  ⟨(.tmp 28), (.call f_glebekit_CopyImage [(.tmp 27)]), none⟩,
  ⟨(.loc 5), (.h (.mk [.nils, .nils])), none⟩,
  ⟨.none, (.h (.store 2 (.loc 5) (.tmp 28))), none⟩])
 (.seq (.seq (.reg [⟨(.loc 6), (.r (.mov (.cst (.int .i64 0)))), none⟩])
 (.block 0 (.loop (c_glebelaw13_ImageTurns_l0 f_glebelaw13_Few f_gleberef13_Ordered f_glebelaw13_known f_glebekit_CopyImage f_glebelaw13_few f_glebelaw13_bases f_glebekit_CopyChange f_image_Apply f_gleberef13_Apply f_glebekit_SameImage f_glebekit_SameChange f_glebekit_SpoilImage f_glebekit_CopyChanges f_image_PutChanges f_gleberef13_PutChanges f_glebekit_SameBytes))))
 (.seq (.reg [⟨(.tmp 110), (.r (.mov (.loc 1))), none⟩,
  ⟨(.tmp 111), (.call f_glebekit_CopyChanges [(.tmp 110)]), none⟩,
  ⟨(.tmp 112), (.call f_image_PutChanges [(.tmp 111)]), none⟩,
  ⟨(.tmp 113), (.r (.mov (.loc 1))), none⟩,
  ⟨(.tmp 114), (.call f_gleberef13_PutChanges [(.tmp 113)]), none⟩,
  ⟨(.tmp 115), (.call f_glebekit_SameBytes [(.tmp 112), (.tmp 114)]), none⟩,
  ⟨(.loc 4), (.r (.mov (.tmp 115))), none⟩])
 .ret))))), [(.tmp (.loc 4))]⟩

def c_glebelaw13_Few_l0 (f_glebekit_BigHard : FuncId) : AC := (.seq (.seq (.reg [⟨(.tmp 14), (.r (.mov (.loc 3))), none⟩,
  ⟨(.tmp 15), (.r (.off 0 (.loc 1))), none⟩,
  ⟨(.tmp 16), (.r (.load false 1 (.tmp 15))), none⟩,
  ⟨(.tmp 17), (.r (.len (.tmp 16))), none⟩,
  ⟨(.loc 18), (.r (.bin .lss (.tmp 14) (.tmp 17))), none⟩])
 (.cond (.loc 18) .skip
 (.exit 0)))
 (.seq (.block 1 (.seq (.reg [⟨(.tmp 21), (.r (.off 0 (.loc 1))), none⟩,
  ⟨(.tmp 22), (.r (.load false 1 (.tmp 21))), none⟩,
  ⟨(.tmp 23), (.r (.mov (.loc 3))), none⟩,
  ⟨(.tmp 24), (.r (.idx 10 (.tmp 22) (.tmp 23))), none⟩,
  ⟨(.tmp 25), (.r (.load true 10 (.tmp 24))), none⟩,
  ⟨(.loc 26), (.call f_glebekit_BigHard [(.tmp 25), (.cst (.int .i64 100)), (.cst (.int .i64 16384))]), none⟩])
 (.cond (.loc 26) (.seq (.reg [⟨(.loc 2), (.r (.mov (.cst (.bool false)))), none⟩])
 .ret)
 .skip)))
 (.reg [⟨(.tmp 19), (.r (.mov (.loc 3))), none⟩,
  ⟨(.tmp 20), (.r (.bin .add (.tmp 19) (.cst (.int .i64 1)))), none⟩,
  ⟨(.loc 3), (.r (.mov (.tmp 20))), none⟩])))
/-- glebe/glebelaw13.Few -/
def c_glebelaw13_Few (f_glebekit_BigHard : FuncId) : AFn := ⟨27, fun s => List.contains [0, 1, 2, 3, 13, 18, 26] s, (.seq (.reg [⟨(.loc 1), (.h (.box (.loc 0))), none⟩,
  ⟨(.loc 2), (.r (.mov (.cst (.bool false)))), none⟩])
 (.seq (.seq (.reg [⟨(.tmp 4), (.r (.off 0 (.loc 1))), none⟩,
  ⟨(.tmp 5), (.r (.load false 1 (.tmp 4))), none⟩,
  ⟨(.tmp 6), (.r (.len (.tmp 5))), none⟩,
  ⟨(.tmp 7), (.r (.bin .gtr (.tmp 6) (.cst (.int .i64 40)))), none⟩,
  ⟨(.tmp 8), (.r (.mov (.tmp 7))), none⟩,
  ⟨(.tmp 9), (.r (.off 1 (.loc 1))), (some ((.tmp 8), false))⟩,
  ⟨(.tmp 10), (.r (.load false 1 (.tmp 9))), (some ((.tmp 8), false))⟩,
  ⟨(.tmp 11), (.r (.len (.tmp 10))), (some ((.tmp 8), false))⟩,
  ⟨(.tmp 12), (.r (.bin .gtr (.tmp 11) (.cst (.int .i64 200)))), (some ((.tmp 8), false))⟩,
  ⟨(.loc 13), (.r (.pick (.tmp 8) (.cst (.bool true)) (.tmp 12))), none⟩])
 (.cond (.loc 13) (.seq (.reg [⟨(.loc 2), (.r (.mov (.cst (.bool false)))), none⟩])
 .ret)
 .skip))
 (.seq (.seq (.reg [⟨(.loc 3), (.r (.mov (.cst (.int .i64 0)))), none⟩])
 (.block 0 (.loop (c_glebelaw13_Few_l0 f_glebekit_BigHard))))
 (.seq (.reg [⟨(.loc 2), (.r (.mov (.cst (.bool true)))), none⟩])
 .ret)))), [(.tmp (.loc 2))]⟩

/-- glebe/glebelaw13.known -/
def c_glebelaw13_known (f_glebelaw13_first : FuncId) (f_image_Put : FuncId) (f_image_Get : FuncId) (f_image_Apply : FuncId) (f_glebekit_SameImage : FuncId) : AFn := ⟨60, fun s => List.contains [0, 1, 2, 3, 4] s, (.seq (.reg [⟨(.loc 0), (.r (.mov (.cst (.bool false)))), none⟩])
 (.seq (.reg [⟨(.tmp 6), (.call f_glebelaw13_first []), none⟩,
  ⟨(.tmp 7), (.call f_image_Put [(.tmp 6)]), none⟩,
  ⟨(.tmp 8), (.call f_image_Get [(.tmp 7)]), none⟩,
  ⟨(.tmp 5), (.r (.mov (.tmp 8))), none⟩,
  ⟨(.tmp 9), (.r (.ext (.tmp 5) 0)), none⟩,
  ⟨(.tmp 10), (.r (.ext (.tmp 5) 1)), none⟩,
  ⟨(.loc 1), (.h (.mk [.nils, .nils])), none⟩,
  ⟨.none, (.h (.store 2 (.loc 1) (.tmp 9))), none⟩,
  ⟨(.loc 2), (.r (.mov (.tmp 10))), none⟩])
 (.seq (.reg [⟨(.tmp 12), (.r (.load true 2 (.loc 1))), none⟩,
  ⟨(.tmp 13), (.r (.build [(.int .i64 0), (.int .i64 0), (.int .i64 0), (.int .i64 0), (.int .i64 0), (.int .i64 0), (.int .i64 0), .nils, .nils, .nils, .nils, .nils, (.int .i64 0), (.int .i64 0), (.int .i64 0), (.int .i64 0), (.int .i64 0)] [(0, 1, (.cst (.int .i64 1))), (1, 1, (.cst (.int .i64 1))), (2, 1, (.cst (.int .i64 8))), (3, 1, (.cst (.int .i64 3)))])), none⟩,
  ⟨(.tmp 14), (.call f_image_Apply [(.tmp 12), (.tmp 13)]), none⟩,
  ⟨(.tmp 11), (.r (.mov (.tmp 14))), none⟩,
  ⟨(.tmp 15), (.r (.ext (.tmp 11) 0)), none⟩,
  ⟨(.tmp 16), (.r (.ext (.tmp 11) 1)), none⟩,
  ⟨(.loc 3), (.h (.mk [.nils, .nils])), none⟩,
  ⟨.none, (.h (.store 2 (.loc 3) (.tmp 15))), none⟩,
  ⟨(.loc 4), (.r (.mov (.tmp 16))), none⟩])
 (.seq (.dreg ⟨[0, 1, 3, 7, 7, 31, 63, 127, 255, 511, 1023, 2047, 4095, 8191, 16383, 32767, 65535, 131071, 262143, 524287, 1048575, 2097151, 4194303, 8388607, 16777215, 33554431, 67108863, 134217727, 268435455, 536870911, 1073741823, 2147483647, 4294967295, 8589934591, 17179869183, 34359738367, 68719476735, 137438953471, 274877906943, 549755813887, 1099511627775, 2199023255551, 4398046511103, 8796093022207], 0, [⟨0, 0, false, (.r (.mov (.loc 2))), none⟩,
  ⟨1, 0, false, (.r (.bin .eql (.tmp 0) (.cst (.int .i64 0)))), none⟩,
  ⟨2, 0, false, (.r (.mov (.tmp 1))), none⟩,
  ⟨3, 0, false, (.r (.load true 2 (.loc 1))), (some ((.tmp 2), true))⟩,
  ⟨4, 0, true, (.call f_glebelaw13_first []), (some ((.tmp 2), true))⟩,
  ⟨5, 0, true, (.call f_glebekit_SameImage [(.tmp 3), (.tmp 4)]), (some ((.tmp 2), true))⟩,
  ⟨6, 0, false, (.r (.pick (.tmp 2) (.tmp 5) (.cst (.bool false)))), none⟩,
  ⟨7, 0, false, (.r (.mov (.tmp 6))), none⟩,
  ⟨8, 0, false, (.r (.mov (.loc 4))), (some ((.tmp 7), true))⟩,
  ⟨9, 0, false, (.r (.bin .eql (.tmp 8) (.cst (.int .i64 0)))), (some ((.tmp 7), true))⟩,
  ⟨10, 0, false, (.r (.pick (.tmp 7) (.tmp 9) (.cst (.bool false)))), none⟩,
  ⟨11, 0, false, (.r (.mov (.tmp 10))), none⟩,
  ⟨12, 0, false, (.r (.off 0 (.loc 3))), (some ((.tmp 11), true))⟩,
  ⟨13, 0, false, (.r (.load false 1 (.tmp 12))), (some ((.tmp 11), true))⟩,
  ⟨14, 0, false, (.r (.len (.tmp 13))), (some ((.tmp 11), true))⟩,
  ⟨15, 0, false, (.r (.bin .eql (.tmp 14) (.cst (.int .i64 1)))), (some ((.tmp 11), true))⟩,
  ⟨16, 0, false, (.r (.pick (.tmp 11) (.tmp 15) (.cst (.bool false)))), none⟩,
  ⟨17, 0, false, (.r (.mov (.tmp 16))), none⟩,
  ⟨18, 0, false, (.r (.off 0 (.loc 3))), (some ((.tmp 17), true))⟩,
  ⟨19, 0, false, (.r (.load false 1 (.tmp 18))), (some ((.tmp 17), true))⟩,
  ⟨20, 0, false, (.r (.idx 10 (.tmp 19) (.cst (.int .i64 0)))), (some ((.tmp 17), true))⟩,
  ⟨21, 0, false, (.r (.off 1 (.tmp 20))), (some ((.tmp 17), true))⟩,
  ⟨22, 0, false, (.r (.load false 1 (.tmp 21))), (some ((.tmp 17), true))⟩,
  ⟨23, 0, false, (.r (.bin .eql (.tmp 22) (.cst (.int .i64 8)))), (some ((.tmp 17), true))⟩,
  ⟨24, 0, false, (.r (.pick (.tmp 17) (.tmp 23) (.cst (.bool false)))), none⟩,
  ⟨25, 0, false, (.r (.mov (.tmp 24))), none⟩,
  ⟨26, 0, false, (.r (.off 0 (.loc 3))), (some ((.tmp 25), true))⟩,
  ⟨27, 0, false, (.r (.load false 1 (.tmp 26))), (some ((.tmp 25), true))⟩,
  ⟨28, 0, false, (.r (.idx 10 (.tmp 27) (.cst (.int .i64 0)))), (some ((.tmp 25), true))⟩,
  ⟨29, 0, false, (.r (.off 2 (.tmp 28))), (some ((.tmp 25), true))⟩,
  ⟨30, 0, false, (.r (.load false 1 (.tmp 29))), (some ((.tmp 25), true))⟩,
  ⟨31, 0, false, (.r (.bin .eql (.tmp 30) (.cst (.int .i64 3)))), (some ((.tmp 25), true))⟩,
  ⟨32, 0, false, (.r (.pick (.tmp 25) (.tmp 31) (.cst (.bool false)))), none⟩,
  ⟨33, 0, false, (.r (.mov (.tmp 32))), none⟩,
  ⟨34, 0, false, (.r (.off 0 (.loc 3))), (some ((.tmp 33), true))⟩,
  ⟨35, 0, false, (.r (.load false 1 (.tmp 34))), (some ((.tmp 33), true))⟩,
  ⟨36, 0, false, (.r (.idx 10 (.tmp 35) (.cst (.int .i64 0)))), (some ((.tmp 33), true))⟩,
  ⟨37, 0, false, (.r (.off 3 (.tmp 36))), (some ((.tmp 33), true))⟩,
  ⟨38, 0, false, (.r (.off 2 (.tmp 37))), (some ((.tmp 33), true))⟩,
  ⟨39, 0, false, (.r (.load false 1 (.tmp 38))), (some ((.tmp 33), true))⟩,
  ⟨40, 0, false, (.r (.len (.tmp 39))), (some ((.tmp 33), true))⟩,
  ⟨41, 0, false, (.r (.bin .eql (.tmp 40) (.cst (.int .i64 3)))), (some ((.tmp 33), true))⟩,
  ⟨42, 0, false, (.r (.pick (.tmp 33) (.tmp 41) (.cst (.bool false)))), none⟩,
  ⟨43, 0, false, (.r (.mov (.tmp 42))), none⟩], [(0, 43)]⟩)
 .ret)))), [(.tmp (.loc 0))]⟩

/-- glebe/glebelaw13.few -/
def c_glebelaw13_few (f_glebekit_BigEntries : FuncId) (f_glebekit_BigConf : FuncId) : AFn := ⟨20, fun s => List.contains [0, 1, 2] s, (.seq (.reg [⟨(.loc 1), (.h (.box (.loc 0))), none⟩,
  ⟨(.loc 2), (.r (.mov (.cst (.bool false)))), none⟩])
 (.seq (.reg [⟨(.tmp 3), (.r (.off 5 (.loc 1))), none⟩,
  ⟨(.tmp 4), (.r (.off 2 (.tmp 3))), none⟩,
  ⟨(.tmp 5), (.r (.load false 1 (.tmp 4))), none⟩,
  ⟨(.tmp 6), (.call f_glebekit_BigEntries [(.tmp 5), (.cst (.int .i64 100)), (.cst (.int .i64 16384))]), none⟩,
  ⟨(.tmp 7), (.r (.not (.tmp 6))), none⟩,
  ⟨(.tmp 8), (.r (.mov (.tmp 7))), none⟩,
  ⟨(.tmp 9), (.r (.off 8 (.loc 1))), (some ((.tmp 8), true))⟩,
  ⟨(.tmp 10), (.r (.load true 3 (.tmp 9))), (some ((.tmp 8), true))⟩,
  ⟨(.tmp 11), (.call f_glebekit_BigConf [(.tmp 10), (.cst (.int .i64 100))]), (some ((.tmp 8), true))⟩,
  ⟨(.tmp 12), (.r (.not (.tmp 11))), (some ((.tmp 8), true))⟩,
  ⟨(.tmp 13), (.r (.pick (.tmp 8) (.tmp 12) (.cst (.bool false)))), none⟩,
  ⟨(.tmp 14), (.r (.mov (.tmp 13))), none⟩,
  ⟨(.tmp 15), (.r (.off 11 (.loc 1))), (some ((.tmp 14), true))⟩,
  ⟨(.tmp 16), (.r (.load false 1 (.tmp 15))), (some ((.tmp 14), true))⟩,
  ⟨(.tmp 17), (.r (.len (.tmp 16))), (some ((.tmp 14), true))⟩,
  ⟨(.tmp 18), (.r (.bin .leq (.tmp 17) (.cst (.int .i64 16384)))), (some ((.tmp 14), true))⟩,
  ⟨(.tmp 19), (.r (.pick (.tmp 14) (.tmp 18) (.cst (.bool false)))), none⟩,
  ⟨(.loc 2), (.r (.mov (.tmp 19))), none⟩])
 .ret)), [(.tmp (.loc 2))]⟩

def c_glebelaw13_bases_l0 : AC := (.seq (.seq (.reg [⟨(.tmp 5), (.r (.mov (.loc 3))), none⟩,
  ⟨(.tmp 6), (.r (.off 0 (.loc 1))), none⟩,
  ⟨(.tmp 7), (.r (.load false 1 (.tmp 6))), none⟩,
  ⟨(.tmp 8), (.r (.len (.tmp 7))), none⟩,
  ⟨(.loc 9), (.r (.bin .lss (.tmp 5) (.tmp 8))), none⟩])
 (.cond (.loc 9) .skip
 (.exit 0)))
 (.seq (.block 1 (.seq (.reg [⟨(.tmp 12), (.r (.off 0 (.loc 1))), none⟩,
  ⟨(.tmp 13), (.r (.load false 1 (.tmp 12))), none⟩,
  ⟨(.tmp 14), (.r (.mov (.loc 3))), none⟩,
  ⟨(.tmp 15), (.r (.idx 10 (.tmp 13) (.tmp 14))), none⟩,
  ⟨(.tmp 16), (.r (.off 3 (.tmp 15))), none⟩,
  ⟨(.tmp 17), (.r (.load true 3 (.tmp 16))), none⟩,
  ⟨(.loc 4), (.h (.mk [(.int .i64 0), (.int .i64 0), .nils])), none⟩,
  ⟨.none, (.h (.store 3 (.loc 4) (.tmp 17))), none⟩])
 (.seq (.reg [⟨(.tmp 18), (.r (.off 0 (.loc 4))), none⟩,
  ⟨(.tmp 19), (.r (.load false 1 (.tmp 18))), none⟩,
  ⟨(.tmp 20), (.r (.bin .lss (.tmp 19) (.cst (.int .i64 0)))), none⟩,
  ⟨(.tmp 21), (.r (.mov (.tmp 20))), none⟩,
  ⟨(.tmp 22), (.r (.off 0 (.loc 4))), (some ((.tmp 21), false))⟩,
  ⟨(.tmp 23), (.r (.load false 1 (.tmp 22))), (some ((.tmp 21), false))⟩,
  ⟨(.tmp 24), (.r (.bin .gtr (.tmp 23) (.cst (.int .i64 1099511627776)))), (some ((.tmp 21), false))⟩,
  ⟨(.tmp 25), (.r (.pick (.tmp 21) (.cst (.bool true)) (.tmp 24))), none⟩,
  ⟨(.tmp 26), (.r (.mov (.tmp 25))), none⟩,
  ⟨(.tmp 27), (.r (.off 1 (.loc 4))), (some ((.tmp 26), false))⟩,
  ⟨(.tmp 28), (.r (.load false 1 (.tmp 27))), (some ((.tmp 26), false))⟩,
  ⟨(.tmp 29), (.r (.bin .lss (.tmp 28) (.cst (.int .i64 0)))), (some ((.tmp 26), false))⟩,
  ⟨(.tmp 30), (.r (.pick (.tmp 26) (.cst (.bool true)) (.tmp 29))), none⟩,
  ⟨(.tmp 31), (.r (.mov (.tmp 30))), none⟩,
  ⟨(.tmp 32), (.r (.off 1 (.loc 4))), (some ((.tmp 31), false))⟩,
  ⟨(.tmp 33), (.r (.load false 1 (.tmp 32))), (some ((.tmp 31), false))⟩,
  ⟨(.tmp 34), (.r (.bin .gtr (.tmp 33) (.cst (.int .i64 1099511627776)))), (some ((.tmp 31), false))⟩,
  ⟨(.loc 35), (.r (.pick (.tmp 31) (.cst (.bool true)) (.tmp 34))), none⟩])
 (.cond (.loc 35) (.seq (.reg [⟨(.loc 2), (.r (.mov (.cst (.bool false)))), none⟩])
 .ret)
 .skip))))
 (.reg [⟨(.tmp 10), (.r (.mov (.loc 3))), none⟩,
  ⟨(.tmp 11), (.r (.bin .add (.tmp 10) (.cst (.int .i64 1)))), none⟩,
  ⟨(.loc 3), (.r (.mov (.tmp 11))), none⟩])))
/-- glebe/glebelaw13.bases -/
def c_glebelaw13_bases : AFn := ⟨36, fun s => List.contains [0, 1, 2, 3, 4, 9, 35] s, (.seq (.reg [⟨(.loc 1), (.h (.box (.loc 0))), none⟩,
  ⟨(.loc 2), (.r (.mov (.cst (.bool false)))), none⟩])
 (.seq (.seq (.reg [⟨(.loc 3), (.r (.mov (.cst (.int .i64 0)))), none⟩])
 (.block 0 (.loop (c_glebelaw13_bases_l0))))
 (.seq (.reg [⟨(.loc 2), (.r (.mov (.cst (.bool true)))), none⟩])
 .ret))), [(.tmp (.loc 2))]⟩

/-- glebe/glebelaw13.first -/
def c_glebelaw13_first : AFn := ⟨16, fun s => List.contains [0, 1] s, (.seq (.reg [⟨(.loc 0), (.h (.mk [.nils, .nils])), none⟩])
 (.seq (.reg [⟨(.tmp 2), (.h (.bsl 1 [(.cst (.int .u8 1))])), none⟩,
  ⟨(.tmp 3), (.r (.build [(.int .i64 0), (.int .i64 0), .nils] [(0, 1, (.cst (.int .i64 2))), (2, 1, (.tmp 2))])), none⟩,
  ⟨(.tmp 4), (.r (.build [(.int .i64 0), (.int .i64 0), .nils] [(0, 1, (.cst (.int .i64 3)))])), none⟩,
  ⟨(.tmp 5), (.h (.bsl 1 [(.cst (.int .u8 2)), (.cst (.int .u8 3))])), none⟩,
  ⟨(.tmp 6), (.r (.build [(.int .i64 0), (.int .i64 0), .nils] [(0, 1, (.cst (.int .i64 3))), (2, 1, (.tmp 5))])), none⟩,
  ⟨(.tmp 7), (.h (.bsl 3 [(.tmp 3), (.tmp 4), (.tmp 6)])), none⟩,
  ⟨(.tmp 8), (.r (.build [(.int .i64 0), (.int .i64 0), .nils] [(0, 1, (.cst (.int .i64 4))), (1, 1, (.cst (.int .i64 2))), (2, 1, (.tmp 7))])), none⟩,
  ⟨(.loc 1), (.h (.mk [(.int .i64 0), (.int .i64 0), .nils])), none⟩,
  ⟨.none, (.h (.store 3 (.loc 1) (.tmp 8))), none⟩])
 (.seq (.reg [⟨(.tmp 9), (.r (.load true 3 (.loc 1))), none⟩,
  ⟨(.tmp 10), (.h (.bsl 1 [(.cst (.int .i64 1)), (.cst (.int .i64 2)), (.cst (.int .i64 3))])), none⟩,
  ⟨(.tmp 11), (.r (.build [.nils, .nils, .nils] [(0, 1, (.tmp 10))])), none⟩,
  ⟨(.tmp 12), (.h (.bsl 1 [(.cst (.int .u8 9))])), none⟩,
  ⟨(.tmp 13), (.r (.build [(.int .i64 0), (.int .i64 0), (.int .i64 0), (.int .i64 0), (.int .i64 0), .nils, .nils, .nils, .nils, .nils] [(0, 1, (.cst (.int .i64 1))), (1, 1, (.cst (.int .i64 3))), (2, 1, (.cst (.int .i64 2))), (3, 3, (.tmp 9)), (6, 3, (.tmp 11)), (9, 1, (.tmp 12))])), none⟩,
  ⟨(.tmp 14), (.h (.bsl 10 [(.tmp 13)])), none⟩,
  ⟨(.tmp 15), (.r (.build [.nils, .nils] [(0, 1, (.tmp 14))])), none⟩,
  ⟨.none, (.h (.store 2 (.loc 0) (.tmp 15))), none⟩])
 .ret))), [(.cell (.loc 0) true 2)]⟩

end Glb
