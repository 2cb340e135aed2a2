/-
  What functions of the program are, one by one (the functions that they call as parameters), in a form of which something can be shown.
-/
import Derived.Test.YtodbhmdfmdfiaaaGlbLibB
set_option linter.unusedSimpArgs false
set_option linter.unusedVariables false
namespace Glb
open Go
set_option maxRecDepth 100000

def c_glebelaw13_Few_l0 (f_glebekit_BigHard : FuncId) : AC := (.seq (.seq (.reg [⟨(.tmp 14), (.r (.mov (.loc 3))), none⟩,
  ⟨(.tmp 15), (.r (.off 0 (.loc 1))), none⟩,
  ⟨(.tmp 16), (.r (.load false 1 (.tmp 15))), none⟩,
  ⟨(.tmp 17), (.r (.len (.tmp 16))), none⟩,
  ⟨(.loc 18), (.r (.bin .lss (.tmp 14) (.tmp 17))), none⟩])
 (.cond (.loc 18) .skip
 (.exit 0)))
 (.seq (.block 1 (.seq (.reg [⟨(.tmp 21), (.r (.off 0 (.loc 1))), none⟩,
  ⟨(.tmp 22), (.r (.load false 1 (.tmp 21))), none⟩,
  ⟨(.tmp 23), (.r (.mov (.loc 3))), none⟩,
  ⟨(.tmp 24), (.r (.idx 10 (.tmp 22) (.tmp 23))), none⟩,
  ⟨(.tmp 25), (.r (.load true 10 (.tmp 24))), none⟩,
  ⟨(.loc 26), (.call f_glebekit_BigHard [(.tmp 25), (.cst (.int .i64 100)), (.cst (.int .i64 16384))]), none⟩])
 (.cond (.loc 26) (.seq (.reg [⟨(.loc 2), (.r (.mov (.cst (.bool false)))), none⟩])
 .ret)
 .skip)))
 (.reg [⟨(.tmp 19), (.r (.mov (.loc 3))), none⟩,
  ⟨(.tmp 20), (.r (.bin .add (.tmp 19) (.cst (.int .i64 1)))), none⟩,
  ⟨(.loc 3), (.r (.mov (.tmp 20))), none⟩])))
/-- glebe/glebelaw13.Few -/
def c_glebelaw13_Few (f_glebekit_BigHard : FuncId) : AFn := ⟨27, fun s => List.contains [0, 1, 2, 3, 13, 18, 26] s, (.seq (.reg [⟨(.loc 1), (.h (.box (.loc 0))), none⟩,
  ⟨(.loc 2), (.r (.mov (.cst (.bool false)))), none⟩])
 (.seq (.seq (.reg [⟨(.tmp 4), (.r (.off 0 (.loc 1))), none⟩,
  ⟨(.tmp 5), (.r (.load false 1 (.tmp 4))), none⟩,
  ⟨(.tmp 6), (.r (.len (.tmp 5))), none⟩,
  ⟨(.tmp 7), (.r (.bin .gtr (.tmp 6) (.cst (.int .i64 40)))), none⟩,
  ⟨(.tmp 8), (.r (.mov (.tmp 7))), none⟩,
  ⟨(.tmp 9), (.r (.off 1 (.loc 1))), (some ((.tmp 8), false))⟩,
  ⟨(.tmp 10), (.r (.load false 1 (.tmp 9))), (some ((.tmp 8), false))⟩,
  ⟨(.tmp 11), (.r (.len (.tmp 10))), (some ((.tmp 8), false))⟩,
  ⟨(.tmp 12), (.r (.bin .gtr (.tmp 11) (.cst (.int .i64 200)))), (some ((.tmp 8), false))⟩,
  ⟨(.loc 13), (.r (.pick (.tmp 8) (.cst (.bool true)) (.tmp 12))), none⟩])
 (.cond (.loc 13) (.seq (.reg [⟨(.loc 2), (.r (.mov (.cst (.bool false)))), none⟩])
 .ret)
 .skip))
 (.seq (.seq (.reg [⟨(.loc 3), (.r (.mov (.cst (.int .i64 0)))), none⟩])
 (.block 0 (.loop (c_glebelaw13_Few_l0 f_glebekit_BigHard))))
 (.seq (.reg [⟨(.loc 2), (.r (.mov (.cst (.bool true)))), none⟩])
 .ret)))), [(.tmp (.loc 2))]⟩

/-- glebe/glebelaw13.known -/
def c_glebelaw13_known (f_glebelaw13_first : FuncId) (f_image_Put : FuncId) (f_image_Get : FuncId) (f_image_Apply : FuncId) (f_glebekit_SameImage : FuncId) : AFn := ⟨60, fun s => List.contains [0, 1, 2, 3, 4] s, (.seq (.reg [⟨(.loc 0), (.r (.mov (.cst (.bool false)))), none⟩])
 (.seq (.reg [⟨(.tmp 6), (.call f_glebelaw13_first []), none⟩,
  ⟨(.tmp 7), (.call f_image_Put [(.tmp 6)]), none⟩,
  ⟨(.tmp 8), (.call f_image_Get [(.tmp 7)]), none⟩,
  ⟨(.tmp 5), (.r (.mov (.tmp 8))), none⟩,
  ⟨(.tmp 9), (.r (.ext (.tmp 5) 0)), none⟩,
  ⟨(.tmp 10), (.r (.ext (.tmp 5) 1)), none⟩,
  ⟨(.loc 1), (.h (.mk [.nils, .nils])), none⟩,
  ⟨.none, (.h (.store 2 (.loc 1) (.tmp 9))), none⟩,
  ⟨(.loc 2), (.r (.mov (.tmp 10))), none⟩])
 (.seq (.reg [⟨(.tmp 12), (.r (.load true 2 (.loc 1))), none⟩,
  ⟨(.tmp 13), (.r (.build [(.int .i64 0), (.int .i64 0), (.int .i64 0), (.int .i64 0), (.int .i64 0), (.int .i64 0), (.int .i64 0), .nils, .nils, .nils, .nils, .nils, (.int .i64 0), (.int .i64 0), (.int .i64 0), (.int .i64 0), (.int .i64 0)] [(0, 1, (.cst (.int .i64 1))), (1, 1, (.cst (.int .i64 1))), (2, 1, (.cst (.int .i64 8))), (3, 1, (.cst (.int .i64 3)))])), none⟩,
  ⟨(.tmp 14), (.call f_image_Apply [(.tmp 12), (.tmp 13)]), none⟩,
  ⟨(.tmp 11), (.r (.mov (.tmp 14))), none⟩,
  ⟨(.tmp 15), (.r (.ext (.tmp 11) 0)), none⟩,
  ⟨(.tmp 16), (.r (.ext (.tmp 11) 1)), none⟩,
  ⟨(.loc 3), (.h (.mk [.nils, .nils])), none⟩,
  ⟨.none, (.h (.store 2 (.loc 3) (.tmp 15))), none⟩,
  ⟨(.loc 4), (.r (.mov (.tmp 16))), none⟩])
 (.seq (.dreg ⟨[0, 1, 3, 7, 7, 31, 63, 127, 255, 511, 1023, 2047, 4095, 8191, 16383, 32767, 65535, 131071, 262143, 524287, 1048575, 2097151, 4194303, 8388607, 16777215, 33554431, 67108863, 134217727, 268435455, 536870911, 1073741823, 2147483647, 4294967295, 8589934591, 17179869183, 34359738367, 68719476735, 137438953471, 274877906943, 549755813887, 1099511627775, 2199023255551, 4398046511103, 8796093022207], 0, [⟨0, 0, false, (.r (.mov (.loc 2))), none⟩,
  ⟨1, 0, false, (.r (.bin .eql (.tmp 0) (.cst (.int .i64 0)))), none⟩,
  ⟨2, 0, false, (.r (.mov (.tmp 1))), none⟩,
  ⟨3, 0, false, (.r (.load true 2 (.loc 1))), (some ((.tmp 2), true))⟩,
  ⟨4, 0, true, (.call f_glebelaw13_first []), (some ((.tmp 2), true))⟩,
  ⟨5, 0, true, (.call f_glebekit_SameImage [(.tmp 3), (.tmp 4)]), (some ((.tmp 2), true))⟩,
  ⟨6, 0, false, (.r (.pick (.tmp 2) (.tmp 5) (.cst (.bool false)))), none⟩,
  ⟨7, 0, false, (.r (.mov (.tmp 6))), none⟩,
  ⟨8, 0, false, (.r (.mov (.loc 4))), (some ((.tmp 7), true))⟩,
  ⟨9, 0, false, (.r (.bin .eql (.tmp 8) (.cst (.int .i64 0)))), (some ((.tmp 7), true))⟩,
  ⟨10, 0, false, (.r (.pick (.tmp 7) (.tmp 9) (.cst (.bool false)))), none⟩,
  ⟨11, 0, false, (.r (.mov (.tmp 10))), none⟩,
  ⟨12, 0, false, (.r (.off 0 (.loc 3))), (some ((.tmp 11), true))⟩,
  ⟨13, 0, false, (.r (.load false 1 (.tmp 12))), (some ((.tmp 11), true))⟩,
  ⟨14, 0, false, (.r (.len (.tmp 13))), (some ((.tmp 11), true))⟩,
  ⟨15, 0, false, (.r (.bin .eql (.tmp 14) (.cst (.int .i64 1)))), (some ((.tmp 11), true))⟩,
  ⟨16, 0, false, (.r (.pick (.tmp 11) (.tmp 15) (.cst (.bool false)))), none⟩,
  ⟨17, 0, false, (.r (.mov (.tmp 16))), none⟩,
  ⟨18, 0, false, (.r (.off 0 (.loc 3))), (some ((.tmp 17), true))⟩,
  ⟨19, 0, false, (.r (.load false 1 (.tmp 18))), (some ((.tmp 17), true))⟩,
  ⟨20, 0, false, (.r (.idx 10 (.tmp 19) (.cst (.int .i64 0)))), (some ((.tmp 17), true))⟩,
  ⟨21, 0, false, (.r (.off 1 (.tmp 20))), (some ((.tmp 17), true))⟩,
  ⟨22, 0, false, (.r (.load false 1 (.tmp 21))), (some ((.tmp 17), true))⟩,
  ⟨23, 0, false, (.r (.bin .eql (.tmp 22) (.cst (.int .i64 8)))), (some ((.tmp 17), true))⟩,
  ⟨24, 0, false, (.r (.pick (.tmp 17) (.tmp 23) (.cst (.bool false)))), none⟩,
  ⟨25, 0, false, (.r (.mov (.tmp 24))), none⟩,
  ⟨26, 0, false, (.r (.off 0 (.loc 3))), (some ((.tmp 25), true))⟩,
  ⟨27, 0, false, (.r (.load false 1 (.tmp 26))), (some ((.tmp 25), true))⟩,
  ⟨28, 0, false, (.r (.idx 10 (.tmp 27) (.cst (.int .i64 0)))), (some ((.tmp 25), true))⟩,
  ⟨29, 0, false, (.r (.off 2 (.tmp 28))), (some ((.tmp 25), true))⟩,
  ⟨30, 0, false, (.r (.load false 1 (.tmp 29))), (some ((.tmp 25), true))⟩,
  ⟨31, 0, false, (.r (.bin .eql (.tmp 30) (.cst (.int .i64 3)))), (some ((.tmp 25), true))⟩,
  ⟨32, 0, false, (.r (.pick (.tmp 25) (.tmp 31) (.cst (.bool false)))), none⟩,
  ⟨33, 0, false, (.r (.mov (.tmp 32))), none⟩,
  ⟨34, 0, false, (.r (.off 0 (.loc 3))), (some ((.tmp 33), true))⟩,
  ⟨35, 0, false, (.r (.load false 1 (.tmp 34))), (some ((.tmp 33), true))⟩,
  ⟨36, 0, false, (.r (.idx 10 (.tmp 35) (.cst (.int .i64 0)))), (some ((.tmp 33), true))⟩,
  ⟨37, 0, false, (.r (.off 3 (.tmp 36))), (some ((.tmp 33), true))⟩,
  ⟨38, 0, false, (.r (.off 2 (.tmp 37))), (some ((.tmp 33), true))⟩,
  ⟨39, 0, false, (.r (.load false 1 (.tmp 38))), (some ((.tmp 33), true))⟩,
  ⟨40, 0, false, (.r (.len (.tmp 39))), (some ((.tmp 33), true))⟩,
  ⟨41, 0, false, (.r (.bin .eql (.tmp 40) (.cst (.int .i64 3)))), (some ((.tmp 33), true))⟩,
  ⟨42, 0, false, (.r (.pick (.tmp 33) (.tmp 41) (.cst (.bool false)))), none⟩,
  ⟨43, 0, false, (.r (.mov (.tmp 42))), none⟩], [(0, 43)]⟩)
 .ret)))), [(.tmp (.loc 0))]⟩

/-- glebe/glebelaw13.first -/
def c_glebelaw13_first : AFn := ⟨16, fun s => List.contains [0, 1] s, (.seq (.reg [⟨(.loc 0), (.h (.mk [.nils, .nils])), none⟩])
 (.seq (.reg [⟨(.tmp 2), (.h (.bsl 1 [(.cst (.int .u8 1))])), none⟩,
  ⟨(.tmp 3), (.r (.build [(.int .i64 0), (.int .i64 0), .nils] [(0, 1, (.cst (.int .i64 2))), (2, 1, (.tmp 2))])), none⟩,
  ⟨(.tmp 4), (.r (.build [(.int .i64 0), (.int .i64 0), .nils] [(0, 1, (.cst (.int .i64 3)))])), none⟩,
  ⟨(.tmp 5), (.h (.bsl 1 [(.cst (.int .u8 2)), (.cst (.int .u8 3))])), none⟩,
  ⟨(.tmp 6), (.r (.build [(.int .i64 0), (.int .i64 0), .nils] [(0, 1, (.cst (.int .i64 3))), (2, 1, (.tmp 5))])), none⟩,
  ⟨(.tmp 7), (.h (.bsl 3 [(.tmp 3), (.tmp 4), (.tmp 6)])), none⟩,
  ⟨(.tmp 8), (.r (.build [(.int .i64 0), (.int .i64 0), .nils] [(0, 1, (.cst (.int .i64 4))), (1, 1, (.cst (.int .i64 2))), (2, 1, (.tmp 7))])), none⟩,
  ⟨(.loc 1), (.h (.mk [(.int .i64 0), (.int .i64 0), .nils])), none⟩,
  ⟨.none, (.h (.store 3 (.loc 1) (.tmp 8))), none⟩])
 (.seq (.reg [⟨(.tmp 9), (.r (.load true 3 (.loc 1))), none⟩,
  ⟨(.tmp 10), (.h (.bsl 1 [(.cst (.int .i64 1)), (.cst (.int .i64 2)), (.cst (.int .i64 3))])), none⟩,
  ⟨(.tmp 11), (.r (.build [.nils, .nils, .nils] [(0, 1, (.tmp 10))])), none⟩,
  ⟨(.tmp 12), (.h (.bsl 1 [(.cst (.int .u8 9))])), none⟩,
  ⟨(.tmp 13), (.r (.build [(.int .i64 0), (.int .i64 0), (.int .i64 0), (.int .i64 0), (.int .i64 0), .nils, .nils, .nils, .nils, .nils] [(0, 1, (.cst (.int .i64 1))), (1, 1, (.cst (.int .i64 3))), (2, 1, (.cst (.int .i64 2))), (3, 3, (.tmp 9)), (6, 3, (.tmp 11)), (9, 1, (.tmp 12))])), none⟩,
  ⟨(.tmp 14), (.h (.bsl 10 [(.tmp 13)])), none⟩,
  ⟨(.tmp 15), (.r (.build [.nils, .nils] [(0, 1, (.tmp 14))])), none⟩,
  ⟨.none, (.h (.store 2 (.loc 0) (.tmp 15))), none⟩])
 .ret))), [(.cell (.loc 0) true 2)]⟩

/-- glebe/glebelaw13.ImagePuts -/
def c_glebelaw13_ImagePuts (f_glebelaw13_Few : FuncId) (f_glebekit_BigConf : FuncId) (f_glebelaw13_known : FuncId) (f_glebekit_CopyImage : FuncId) (f_glebekit_CopyConf : FuncId) (f_image_Put : FuncId) (f_gleberef13_Put : FuncId) (f_glebekit_SameBytes : FuncId) (f_image_PutConf : FuncId) (f_gleberef13_PutConf : FuncId) (f_glebekit_SameImage : FuncId) (f_glebekit_SameConf : FuncId) : AFn := ⟨41, fun s => List.contains [0, 1, 2, 3, 4, 5, 6, 13] s, (.seq (.reg [⟨(.loc 2), (.h (.box (.loc 0))), none⟩,
  ⟨(.loc 3), (.h (.box (.loc 1))), none⟩,
  ⟨(.loc 4), (.r (.mov (.cst (.bool false)))), none⟩])
 (.seq (.seq (.reg [⟨(.tmp 7), (.r (.load true 2 (.loc 2))), none⟩,
  ⟨(.tmp 8), (.call f_glebelaw13_Few [(.tmp 7)]), none⟩,
  ⟨(.tmp 9), (.r (.not (.tmp 8))), none⟩,
  ⟨(.tmp 10), (.r (.mov (.tmp 9))), none⟩,
  ⟨(.tmp 11), (.r (.load true 3 (.loc 3))), (some ((.tmp 10), false))⟩,
  ⟨(.tmp 12), (.call f_glebekit_BigConf [(.tmp 11), (.cst (.int .i64 65536))]), (some ((.tmp 10), false))⟩,
  ⟨(.loc 13), (.r (.pick (.tmp 10) (.cst (.bool true)) (.tmp 12))), none⟩])
 (.cond (.loc 13) (.seq (.reg [⟨(.tmp 14), (.call f_glebelaw13_known []), none⟩,
  ⟨(.loc 4), (.r (.mov (.tmp 14))), none⟩])
 .ret)
 .skip))
 (.seq (.reg [⟨(.tmp 15), (.r (.load true 2 (.loc 2))), none⟩,
  ⟨(.tmp 16), (.call f_glebekit_CopyImage [(.tmp 15)]), none⟩,
  ⟨(.loc 5), (.h (.mk [.nils, .nils])), none⟩,
  ⟨.none, (.h (.store 2 (.loc 5) (.tmp 16))), none⟩])
 (.seq (.reg [⟨(.tmp 17), (.r (.load true 3 (.loc 3))), none⟩,
  ⟨(.tmp 18), (.call f_glebekit_CopyConf [(.tmp 17)]), none⟩,
  ⟨(.loc 6), (.h (.mk [.nils, .nils, .nils])), none⟩,
  ⟨.none, (.h (.store 3 (.loc 6) (.tmp 18))), none⟩])
 (.seq (.dreg ⟨[0, 1, 0, 7, 15, 31, 63, 127, 63, 511, 1023, 2047, 4095, 8191, 8191, 32767, 65535, 131071, 262143, 262143, 1048575, 2097151, 4194303], 0, [⟨0, 0, false, (.r (.load true 2 (.loc 5))), none⟩,
  ⟨2, 0, false, (.r (.load true 2 (.loc 2))), none⟩,
  ⟨1, 0, true, (.call f_image_Put [(.tmp 0)]), none⟩,
  ⟨3, 0, true, (.call f_gleberef13_Put [(.tmp 2)]), none⟩,
  ⟨4, 0, true, (.call f_glebekit_SameBytes [(.tmp 1), (.tmp 3)]), none⟩,
  ⟨5, 0, false, (.r (.mov (.tmp 4))), none⟩,
  ⟨6, 0, false, (.r (.load true 3 (.loc 6))), (some ((.tmp 5), true))⟩,
  ⟨8, 0, false, (.r (.load true 3 (.loc 3))), (some ((.tmp 5), true))⟩,
  ⟨7, 0, true, (.call f_image_PutConf [(.tmp 6)]), (some ((.tmp 5), true))⟩,
  ⟨9, 0, true, (.call f_gleberef13_PutConf [(.tmp 8)]), (some ((.tmp 5), true))⟩,
  ⟨10, 0, true, (.call f_glebekit_SameBytes [(.tmp 7), (.tmp 9)]), (some ((.tmp 5), true))⟩,
  ⟨11, 0, false, (.r (.pick (.tmp 5) (.tmp 10) (.cst (.bool false)))), none⟩,
  ⟨12, 0, false, (.r (.mov (.tmp 11))), none⟩,
  ⟨13, 0, false, (.r (.load true 2 (.loc 5))), (some ((.tmp 12), true))⟩,
  ⟨14, 0, false, (.r (.load true 2 (.loc 2))), (some ((.tmp 12), true))⟩,
  ⟨15, 0, true, (.call f_glebekit_SameImage [(.tmp 13), (.tmp 14)]), (some ((.tmp 12), true))⟩,
  ⟨16, 0, false, (.r (.pick (.tmp 12) (.tmp 15) (.cst (.bool false)))), none⟩,
  ⟨17, 0, false, (.r (.mov (.tmp 16))), none⟩,
  ⟨18, 0, false, (.r (.load true 3 (.loc 6))), (some ((.tmp 17), true))⟩,
  ⟨19, 0, false, (.r (.load true 3 (.loc 3))), (some ((.tmp 17), true))⟩,
  ⟨20, 0, true, (.call f_glebekit_SameConf [(.tmp 18), (.tmp 19)]), (some ((.tmp 17), true))⟩,
  ⟨21, 0, false, (.r (.pick (.tmp 17) (.tmp 20) (.cst (.bool false)))), none⟩,
  ⟨22, 0, false, (.r (.mov (.tmp 21))), none⟩], [(4, 22)]⟩)
 .ret))))), [(.tmp (.loc 4))]⟩

end Glb
