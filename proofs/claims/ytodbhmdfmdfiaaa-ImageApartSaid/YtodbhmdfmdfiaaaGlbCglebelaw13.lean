/-
  What functions of the program are, one by one (the functions that they call as parameters), in a form of which something can be shown.
-/
import Derived.Test.YtodbhmdfmdfiaaaGlbLibB
set_option linter.unusedSimpArgs false
set_option linter.unusedVariables false
namespace Glb
open Go
set_option maxRecDepth 100000

def c_glebelaw13_Few_l0 (f_glebekit_BigHard : FuncId) : AC := (.seq (.seq (.reg [⟨(.tmp 14), (.r (.mov (.loc 3))), none⟩,
  ⟨(.tmp 15), (.r (.off 0 (.loc 1))), none⟩,
  ⟨(.tmp 16), (.r (.load false 1 (.tmp 15))), none⟩,
  ⟨(.tmp 17), (.r (.len (.tmp 16))), none⟩,
  ⟨(.loc 18), (.r (.bin .lss (.tmp 14) (.tmp 17))), none⟩])
 (.cond (.loc 18) .skip
 (.exit 0)))
 (.seq (.block 1 (.seq (.reg [⟨(.tmp 21), (.r (.off 0 (.loc 1))), none⟩,
  ⟨(.tmp 22), (.r (.load false 1 (.tmp 21))), none⟩,
  ⟨(.tmp 23), (.r (.mov (.loc 3))), none⟩,
  ⟨(.tmp 24), (.r (.idx 10 (.tmp 22) (.tmp 23))), none⟩,
  ⟨(.tmp 25), (.r (.load true 10 (.tmp 24))), none⟩,
  ⟨(.loc 26), (.call f_glebekit_BigHard [(.tmp 25), (.cst (.int .i64 100)), (.cst (.int .i64 16384))]), none⟩])
 (.cond (.loc 26) (.seq (.reg [⟨(.loc 2), (.r (.mov (.cst (.bool false)))), none⟩])
 .ret)
 .skip)))
 (.reg [⟨(.tmp 19), (.r (.mov (.loc 3))), none⟩,
  ⟨(.tmp 20), (.r (.bin .add (.tmp 19) (.cst (.int .i64 1)))), none⟩,
  ⟨(.loc 3), (.r (.mov (.tmp 20))), none⟩])))
/-- glebe/glebelaw13.Few -/
def c_glebelaw13_Few (f_glebekit_BigHard : FuncId) : AFn := ⟨27, fun s => List.contains [0, 1, 2, 3, 13, 18, 26] s, (.seq (.reg [⟨(.loc 1), (.h (.box (.loc 0))), none⟩,
  ⟨(.loc 2), (.r (.mov (.cst (.bool false)))), none⟩])
 (.seq (.seq (.reg [⟨(.tmp 4), (.r (.off 0 (.loc 1))), none⟩,
  ⟨(.tmp 5), (.r (.load false 1 (.tmp 4))), none⟩,
  ⟨(.tmp 6), (.r (.len (.tmp 5))), none⟩,
  ⟨(.tmp 7), (.r (.bin .gtr (.tmp 6) (.cst (.int .i64 40)))), none⟩,
  ⟨(.tmp 8), (.r (.mov (.tmp 7))), none⟩,
  ⟨(.tmp 9), (.r (.off 1 (.loc 1))), (some ((.tmp 8), false))⟩,
  ⟨(.tmp 10), (.r (.load false 1 (.tmp 9))), (some ((.tmp 8), false))⟩,
  ⟨(.tmp 11), (.r (.len (.tmp 10))), (some ((.tmp 8), false))⟩,
  ⟨(.tmp 12), (.r (.bin .gtr (.tmp 11) (.cst (.int .i64 200)))), (some ((.tmp 8), false))⟩,
  ⟨(.loc 13), (.r (.pick (.tmp 8) (.cst (.bool true)) (.tmp 12))), none⟩])
 (.cond (.loc 13) (.seq (.reg [⟨(.loc 2), (.r (.mov (.cst (.bool false)))), none⟩])
 .ret)
 .skip))
 (.seq (.seq (.reg [⟨(.loc 3), (.r (.mov (.cst (.int .i64 0)))), none⟩])
 (.block 0 (.loop (c_glebelaw13_Few_l0 f_glebekit_BigHard))))
 (.seq (.reg [⟨(.loc 2), (.r (.mov (.cst (.bool true)))), none⟩])
 .ret)))), [(.tmp (.loc 2))]⟩

/-- glebe/glebelaw13.known -/
def c_glebelaw13_known (f_glebelaw13_first : FuncId) (f_image_Put : FuncId) (f_image_Get : FuncId) (f_image_Apply : FuncId) (f_glebekit_SameImage : FuncId) : AFn := ⟨60, fun s => List.contains [0, 1, 2, 3, 4] s, (.seq (.reg [⟨(.loc 0), (.r (.mov (.cst (.bool false)))), none⟩])
 (.seq (.reg [⟨(.tmp 6), (.call f_glebelaw13_first []), none⟩,
  ⟨(.tmp 7), (.call f_image_Put [(.tmp 6)]), none⟩,
  ⟨(.tmp 8), (.call f_image_Get [(.tmp 7)]), none⟩,
  ⟨(.tmp 5), (.r (.mov (.tmp 8))), none⟩,
  ⟨(.tmp 9), (.r (.ext (.tmp 5) 0)), none⟩,
  ⟨(.tmp 10), (.r (.ext (.tmp 5) 1)), none⟩,
  ⟨(.loc 1), (.h (.mk [.nils, .nils])), none⟩,
  ⟨.none, (.h (.store 2 (.loc 1) (.tmp 9))), none⟩,
  ⟨(.loc 2), (.r (.mov (.tmp 10))), none⟩])
 (.seq (.reg [⟨(.tmp 12), (.r (.load true 2 (.loc 1))), none⟩,
  ⟨(.tmp 13), (.r (.build [(.int .i64 0), (.int .i64 0), (.int .i64 0), (.int .i64 0), (.int .i64 0), (.int .i64 0), (.int .i64 0), .nils, .nils, .nils, .nils, .nils, (.int .i64 0), (.int .i64 0), (.int .i64 0), (.int .i64 0), (.int .i64 0)] [(0, 1, (.cst (.int .i64 1))), (1, 1, (.cst (.int .i64 1))), (2, 1, (.cst (.int .i64 8))), (3, 1, (.cst (.int .i64 3)))])), none⟩,
  ⟨(.tmp 14), (.call f_image_Apply [(.tmp 12), (.tmp 13)]), none⟩,
  ⟨(.tmp 11), (.r (.mov (.tmp 14))), none⟩,
  ⟨(.tmp 15), (.r (.ext (.tmp 11) 0)), none⟩,
  ⟨(.tmp 16), (.r (.ext (.tmp 11) 1)), none⟩,
  ⟨(.loc 3), (.h (.mk [.nils, .nils])), none⟩,
  ⟨.none, (.h (.store 2 (.loc 3) (.tmp 15))), none⟩,
  ⟨(.loc 4), (.r (.mov (.tmp 16))), none⟩])
 (.seq (.dreg ⟨[0, 1, 3, 7, 7, 31, 63, 127, 255, 511, 1023, 2047, 4095, 8191, 16383, 32767, 65535, 131071, 262143, 524287, 1048575, 2097151, 4194303, 8388607, 16777215, 33554431, 67108863, 134217727, 268435455, 536870911, 1073741823, 2147483647, 4294967295, 8589934591, 17179869183, 34359738367, 68719476735, 137438953471, 274877906943, 549755813887, 1099511627775, 2199023255551, 4398046511103, 8796093022207], 0, [⟨0, 0, false, (.r (.mov (.loc 2))), none⟩,
  ⟨1, 0, false, (.r (.bin .eql (.tmp 0) (.cst (.int .i64 0)))), none⟩,
  ⟨2, 0, false, (.r (.mov (.tmp 1))), none⟩,
  ⟨3, 0, false, (.r (.load true 2 (.loc 1))), (some ((.tmp 2), true))⟩,
  ⟨4, 0, true, (.call f_glebelaw13_first []), (some ((.tmp 2), true))⟩,
  ⟨5, 0, true, (.call f_glebekit_SameImage [(.tmp 3), (.tmp 4)]), (some ((.tmp 2), true))⟩,
  ⟨6, 0, false, (.r (.pick (.tmp 2) (.tmp 5) (.cst (.bool false)))), none⟩,
  ⟨7, 0, false, (.r (.mov (.tmp 6))), none⟩,
  ⟨8, 0, false, (.r (.mov (.loc 4))), (some ((.tmp 7), true))⟩,
  ⟨9, 0, false, (.r (.bin .eql (.tmp 8) (.cst (.int .i64 0)))), (some ((.tmp 7), true))⟩,
  ⟨10, 0, false, (.r (.pick (.tmp 7) (.tmp 9) (.cst (.bool false)))), none⟩,
  ⟨11, 0, false, (.r (.mov (.tmp 10))), none⟩,
  ⟨12, 0, false, (.r (.off 0 (.loc 3))), (some ((.tmp 11), true))⟩,
  ⟨13, 0, false, (.r (.load false 1 (.tmp 12))), (some ((.tmp 11), true))⟩,
  ⟨14, 0, false, (.r (.len (.tmp 13))), (some ((.tmp 11), true))⟩,
  ⟨15, 0, false, (.r (.bin .eql (.tmp 14) (.cst (.int .i64 1)))), (some ((.tmp 11), true))⟩,
  ⟨16, 0, false, (.r (.pick (.tmp 11) (.tmp 15) (.cst (.bool false)))), none⟩,
  ⟨17, 0, false, (.r (.mov (.tmp 16))), none⟩,
  ⟨18, 0, false, (.r (.off 0 (.loc 3))), (some ((.tmp 17), true))⟩,
  ⟨19, 0, false, (.r (.load false 1 (.tmp 18))), (some ((.tmp 17), true))⟩,
  ⟨20, 0, false, (.r (.idx 10 (.tmp 19) (.cst (.int .i64 0)))), (some ((.tmp 17), true))⟩,
  ⟨21, 0, false, (.r (.off 1 (.tmp 20))), (some ((.tmp 17), true))⟩,
  ⟨22, 0, false, (.r (.load false 1 (.tmp 21))), (some ((.tmp 17), true))⟩,
  ⟨23, 0, false, (.r (.bin .eql (.tmp 22) (.cst (.int .i64 8)))), (some ((.tmp 17), true))⟩,
  ⟨24, 0, false, (.r (.pick (.tmp 17) (.tmp 23) (.cst (.bool false)))), none⟩,
  ⟨25, 0, false, (.r (.mov (.tmp 24))), none⟩,
  ⟨26, 0, false, (.r (.off 0 (.loc 3))), (some ((.tmp 25), true))⟩,
  ⟨27, 0, false, (.r (.load false 1 (.tmp 26))), (some ((.tmp 25), true))⟩,
  ⟨28, 0, false, (.r (.idx 10 (.tmp 27) (.cst (.int .i64 0)))), (some ((.tmp 25), true))⟩,
  ⟨29, 0, false, (.r (.off 2 (.tmp 28))), (some ((.tmp 25), true))⟩,
  ⟨30, 0, false, (.r (.load false 1 (.tmp 29))), (some ((.tmp 25), true))⟩,
  ⟨31, 0, false, (.r (.bin .eql (.tmp 30) (.cst (.int .i64 3)))), (some ((.tmp 25), true))⟩,
  ⟨32, 0, false, (.r (.pick (.tmp 25) (.tmp 31) (.cst (.bool false)))), none⟩,
  ⟨33, 0, false, (.r (.mov (.tmp 32))), none⟩,
  ⟨34, 0, false, (.r (.off 0 (.loc 3))), (some ((.tmp 33), true))⟩,
  ⟨35, 0, false, (.r (.load false 1 (.tmp 34))), (some ((.tmp 33), true))⟩,
  ⟨36, 0, false, (.r (.idx 10 (.tmp 35) (.cst (.int .i64 0)))), (some ((.tmp 33), true))⟩,
  ⟨37, 0, false, (.r (.off 3 (.tmp 36))), (some ((.tmp 33), true))⟩,
  ⟨38, 0, false, (.r (.off 2 (.tmp 37))), (some ((.tmp 33), true))⟩,
  ⟨39, 0, false, (.r (.load false 1 (.tmp 38))), (some ((.tmp 33), true))⟩,
  ⟨40, 0, false, (.r (.len (.tmp 39))), (some ((.tmp 33), true))⟩,
  ⟨41, 0, false, (.r (.bin .eql (.tmp 40) (.cst (.int .i64 3)))), (some ((.tmp 33), true))⟩,
  ⟨42, 0, false, (.r (.pick (.tmp 33) (.tmp 41) (.cst (.bool false)))), none⟩,
  ⟨43, 0, false, (.r (.mov (.tmp 42))), none⟩], [(0, 43)]⟩)
 .ret)))), [(.tmp (.loc 0))]⟩

/-- glebe/glebelaw13.few -/
def c_glebelaw13_few (f_glebekit_BigEntries : FuncId) (f_glebekit_BigConf : FuncId) : AFn := ⟨20, fun s => List.contains [0, 1, 2] s, (.seq (.reg [⟨(.loc 1), (.h (.box (.loc 0))), none⟩,
  ⟨(.loc 2), (.r (.mov (.cst (.bool false)))), none⟩])
 (.seq (.reg [⟨(.tmp 3), (.r (.off 5 (.loc 1))), none⟩,
  ⟨(.tmp 4), (.r (.off 2 (.tmp 3))), none⟩,
  ⟨(.tmp 5), (.r (.load false 1 (.tmp 4))), none⟩,
  ⟨(.tmp 6), (.call f_glebekit_BigEntries [(.tmp 5), (.cst (.int .i64 100)), (.cst (.int .i64 16384))]), none⟩,
  ⟨(.tmp 7), (.r (.not (.tmp 6))), none⟩,
  ⟨(.tmp 8), (.r (.mov (.tmp 7))), none⟩,
  ⟨(.tmp 9), (.r (.off 8 (.loc 1))), (some ((.tmp 8), true))⟩,
  ⟨(.tmp 10), (.r (.load true 3 (.tmp 9))), (some ((.tmp 8), true))⟩,
  ⟨(.tmp 11), (.call f_glebekit_BigConf [(.tmp 10), (.cst (.int .i64 100))]), (some ((.tmp 8), true))⟩,
  ⟨(.tmp 12), (.r (.not (.tmp 11))), (some ((.tmp 8), true))⟩,
  ⟨(.tmp 13), (.r (.pick (.tmp 8) (.tmp 12) (.cst (.bool false)))), none⟩,
  ⟨(.tmp 14), (.r (.mov (.tmp 13))), none⟩,
  ⟨(.tmp 15), (.r (.off 11 (.loc 1))), (some ((.tmp 14), true))⟩,
  ⟨(.tmp 16), (.r (.load false 1 (.tmp 15))), (some ((.tmp 14), true))⟩,
  ⟨(.tmp 17), (.r (.len (.tmp 16))), (some ((.tmp 14), true))⟩,
  ⟨(.tmp 18), (.r (.bin .leq (.tmp 17) (.cst (.int .i64 16384)))), (some ((.tmp 14), true))⟩,
  ⟨(.tmp 19), (.r (.pick (.tmp 14) (.tmp 18) (.cst (.bool false)))), none⟩,
  ⟨(.loc 2), (.r (.mov (.tmp 19))), none⟩])
 .ret)), [(.tmp (.loc 2))]⟩

def c_glebelaw13_bases_l0 : AC := (.seq (.seq (.reg [⟨(.tmp 5), (.r (.mov (.loc 3))), none⟩,
  ⟨(.tmp 6), (.r (.off 0 (.loc 1))), none⟩,
  ⟨(.tmp 7), (.r (.load false 1 (.tmp 6))), none⟩,
  ⟨(.tmp 8), (.r (.len (.tmp 7))), none⟩,
  ⟨(.loc 9), (.r (.bin .lss (.tmp 5) (.tmp 8))), none⟩])
 (.cond (.loc 9) .skip
 (.exit 0)))
 (.seq (.block 1 (.seq (.reg [⟨(.tmp 12), (.r (.off 0 (.loc 1))), none⟩,
  ⟨(.tmp 13), (.r (.load false 1 (.tmp 12))), none⟩,
  ⟨(.tmp 14), (.r (.mov (.loc 3))), none⟩,
  ⟨(.tmp 15), (.r (.idx 10 (.tmp 13) (.tmp 14))), none⟩,
  ⟨(.tmp 16), (.r (.off 3 (.tmp 15))), none⟩,
  ⟨(.tmp 17), (.r (.load true 3 (.tmp 16))), none⟩,
  ⟨(.loc 4), (.h (.mk [(.int .i64 0), (.int .i64 0), .nils])), none⟩,
  ⟨.none, (.h (.store 3 (.loc 4) (.tmp 17))), none⟩])
 (.seq (.reg [⟨(.tmp 18), (.r (.off 0 (.loc 4))), none⟩,
  ⟨(.tmp 19), (.r (.load false 1 (.tmp 18))), none⟩,
  ⟨(.tmp 20), (.r (.bin .lss (.tmp 19) (.cst (.int .i64 0)))), none⟩,
  ⟨(.tmp 21), (.r (.mov (.tmp 20))), none⟩,
  ⟨(.tmp 22), (.r (.off 0 (.loc 4))), (some ((.tmp 21), false))⟩,
  ⟨(.tmp 23), (.r (.load false 1 (.tmp 22))), (some ((.tmp 21), false))⟩,
  ⟨(.tmp 24), (.r (.bin .gtr (.tmp 23) (.cst (.int .i64 1099511627776)))), (some ((.tmp 21), false))⟩,
  ⟨(.tmp 25), (.r (.pick (.tmp 21) (.cst (.bool true)) (.tmp 24))), none⟩,
  ⟨(.tmp 26), (.r (.mov (.tmp 25))), none⟩,
  ⟨(.tmp 27), (.r (.off 1 (.loc 4))), (some ((.tmp 26), false))⟩,
  ⟨(.tmp 28), (.r (.load false 1 (.tmp 27))), (some ((.tmp 26), false))⟩,
  ⟨(.tmp 29), (.r (.bin .lss (.tmp 28) (.cst (.int .i64 0)))), (some ((.tmp 26), false))⟩,
  ⟨(.tmp 30), (.r (.pick (.tmp 26) (.cst (.bool true)) (.tmp 29))), none⟩,
  ⟨(.tmp 31), (.r (.mov (.tmp 30))), none⟩,
  ⟨(.tmp 32), (.r (.off 1 (.loc 4))), (some ((.tmp 31), false))⟩,
  ⟨(.tmp 33), (.r (.load false 1 (.tmp 32))), (some ((.tmp 31), false))⟩,
  ⟨(.tmp 34), (.r (.bin .gtr (.tmp 33) (.cst (.int .i64 1099511627776)))), (some ((.tmp 31), false))⟩,
  ⟨(.loc 35), (.r (.pick (.tmp 31) (.cst (.bool true)) (.tmp 34))), none⟩])
 (.cond (.loc 35) (.seq (.reg [⟨(.loc 2), (.r (.mov (.cst (.bool false)))), none⟩])
 .ret)
 .skip))))
 (.reg [⟨(.tmp 10), (.r (.mov (.loc 3))), none⟩,
  ⟨(.tmp 11), (.r (.bin .add (.tmp 10) (.cst (.int .i64 1)))), none⟩,
  ⟨(.loc 3), (.r (.mov (.tmp 11))), none⟩])))
/-- glebe/glebelaw13.bases -/
def c_glebelaw13_bases : AFn := ⟨36, fun s => List.contains [0, 1, 2, 3, 4, 9, 35] s, (.seq (.reg [⟨(.loc 1), (.h (.box (.loc 0))), none⟩,
  ⟨(.loc 2), (.r (.mov (.cst (.bool false)))), none⟩])
 (.seq (.seq (.reg [⟨(.loc 3), (.r (.mov (.cst (.int .i64 0)))), none⟩])
 (.block 0 (.loop (c_glebelaw13_bases_l0))))
 (.seq (.reg [⟨(.loc 2), (.r (.mov (.cst (.bool true)))), none⟩])
 .ret))), [(.tmp (.loc 2))]⟩

/-- glebe/glebelaw13.first -/
def c_glebelaw13_first : AFn := ⟨16, fun s => List.contains [0, 1] s, (.seq (.reg [⟨(.loc 0), (.h (.mk [.nils, .nils])), none⟩])
 (.seq (.reg [⟨(.tmp 2), (.h (.bsl 1 [(.cst (.int .u8 1))])), none⟩,
  ⟨(.tmp 3), (.r (.build [(.int .i64 0), (.int .i64 0), .nils] [(0, 1, (.cst (.int .i64 2))), (2, 1, (.tmp 2))])), none⟩,
  ⟨(.tmp 4), (.r (.build [(.int .i64 0), (.int .i64 0), .nils] [(0, 1, (.cst (.int .i64 3)))])), none⟩,
  ⟨(.tmp 5), (.h (.bsl 1 [(.cst (.int .u8 2)), (.cst (.int .u8 3))])), none⟩,
  ⟨(.tmp 6), (.r (.build [(.int .i64 0), (.int .i64 0), .nils] [(0, 1, (.cst (.int .i64 3))), (2, 1, (.tmp 5))])), none⟩,
  ⟨(.tmp 7), (.h (.bsl 3 [(.tmp 3), (.tmp 4), (.tmp 6)])), none⟩,
  ⟨(.tmp 8), (.r (.build [(.int .i64 0), (.int .i64 0), .nils] [(0, 1, (.cst (.int .i64 4))), (1, 1, (.cst (.int .i64 2))), (2, 1, (.tmp 7))])), none⟩,
  ⟨(.loc 1), (.h (.mk [(.int .i64 0), (.int .i64 0), .nils])), none⟩,
  ⟨.none, (.h (.store 3 (.loc 1) (.tmp 8))), none⟩])
 (.seq (.reg [⟨(.tmp 9), (.r (.load true 3 (.loc 1))), none⟩,
  ⟨(.tmp 10), (.h (.bsl 1 [(.cst (.int .i64 1)), (.cst (.int .i64 2)), (.cst (.int .i64 3))])), none⟩,
  ⟨(.tmp 11), (.r (.build [.nils, .nils, .nils] [(0, 1, (.tmp 10))])), none⟩,
  ⟨(.tmp 12), (.h (.bsl 1 [(.cst (.int .u8 9))])), none⟩,
  ⟨(.tmp 13), (.r (.build [(.int .i64 0), (.int .i64 0), (.int .i64 0), (.int .i64 0), (.int .i64 0), .nils, .nils, .nils, .nils, .nils] [(0, 1, (.cst (.int .i64 1))), (1, 1, (.cst (.int .i64 3))), (2, 1, (.cst (.int .i64 2))), (3, 3, (.tmp 9)), (6, 3, (.tmp 11)), (9, 1, (.tmp 12))])), none⟩,
  ⟨(.tmp 14), (.h (.bsl 10 [(.tmp 13)])), none⟩,
  ⟨(.tmp 15), (.r (.build [.nils, .nils] [(0, 1, (.tmp 14))])), none⟩,
  ⟨.none, (.h (.store 2 (.loc 0) (.tmp 15))), none⟩])
 .ret))), [(.cell (.loc 0) true 2)]⟩

/-- glebe/glebelaw13.ImageApart -/
def c_glebelaw13_ImageApart (f_glebelaw13_Few : FuncId) (f_glebelaw13_ordered : FuncId) (f_glebelaw13_bases : FuncId) (f_glebelaw13_few : FuncId) (f_glebelaw13_known : FuncId) (f_image_Apply : FuncId) (f_glebelaw13_without : FuncId) (f_glebekit_SameImage : FuncId) : AFn := ⟨136, fun s => List.contains [0, 1, 2, 3, 4, 5, 6, 7, 8, 9, 51, 60, 112] s, (.seq (.reg [⟨(.loc 2), (.h (.box (.loc 0))), none⟩,
  ⟨(.loc 3), (.h (.box (.loc 1))), none⟩,
  ⟨(.loc 4), (.r (.mov (.cst (.bool false)))), none⟩])
 (.seq (.seq (.reg [⟨(.tmp 10), (.r (.load true 2 (.loc 2))), none⟩,
  ⟨(.tmp 11), (.call f_glebelaw13_Few [(.tmp 10)]), none⟩,
  ⟨(.tmp 12), (.r (.not (.tmp 11))), none⟩,
  ⟨(.tmp 13), (.r (.mov (.tmp 12))), none⟩,
  ⟨(.tmp 14), (.r (.load true 2 (.loc 2))), (some ((.tmp 13), false))⟩,
  ⟨(.tmp 15), (.call f_glebelaw13_ordered [(.tmp 14)]), (some ((.tmp 13), false))⟩,
  ⟨(.tmp 16), (.r (.not (.tmp 15))), (some ((.tmp 13), false))⟩,
  ⟨(.tmp 17), (.r (.pick (.tmp 13) (.cst (.bool true)) (.tmp 16))), none⟩,
  ⟨(.tmp 18), (.r (.mov (.tmp 17))), none⟩,
  ⟨(.tmp 19), (.r (.load true 2 (.loc 2))), (some ((.tmp 18), false))⟩,
  ⟨(.tmp 20), (.call f_glebelaw13_bases [(.tmp 19)]), (some ((.tmp 18), false))⟩,
  ⟨(.tmp 21), (.r (.not (.tmp 20))), (some ((.tmp 18), false))⟩,
  ⟨(.tmp 22), (.r (.pick (.tmp 18) (.cst (.bool true)) (.tmp 21))), none⟩,
  ⟨(.tmp 23), (.r (.mov (.tmp 22))), none⟩,
  ⟨(.tmp 24), (.r (.load true 17 (.loc 3))), (some ((.tmp 23), false))⟩,
  ⟨(.tmp 25), (.call f_glebelaw13_few [(.tmp 24)]), (some ((.tmp 23), false))⟩,
  ⟨(.tmp 26), (.r (.not (.tmp 25))), (some ((.tmp 23), false))⟩,
  ⟨(.tmp 27), (.r (.pick (.tmp 23) (.cst (.bool true)) (.tmp 26))), none⟩,
  ⟨(.tmp 28), (.r (.mov (.tmp 27))), none⟩,
  ⟨(.tmp 29), (.r (.off 5 (.loc 3))), (some ((.tmp 28), false))⟩,
  ⟨(.tmp 30), (.r (.off 0 (.tmp 29))), (some ((.tmp 28), false))⟩,
  ⟨(.tmp 31), (.r (.load false 1 (.tmp 30))), (some ((.tmp 28), false))⟩,
  ⟨(.tmp 32), (.r (.bin .lss (.tmp 31) (.cst (.int .i64 0)))), (some ((.tmp 28), false))⟩,
  ⟨(.tmp 33), (.r (.pick (.tmp 28) (.cst (.bool true)) (.tmp 32))), none⟩,
  ⟨(.tmp 34), (.r (.mov (.tmp 33))), none⟩,
  ⟨(.tmp 35), (.r (.off 5 (.loc 3))), (some ((.tmp 34), false))⟩,
  ⟨(.tmp 36), (.r (.off 0 (.tmp 35))), (some ((.tmp 34), false))⟩,
  ⟨(.tmp 37), (.r (.load false 1 (.tmp 36))), (some ((.tmp 34), false))⟩,
  ⟨(.tmp 38), (.r (.bin .gtr (.tmp 37) (.cst (.int .i64 1099511627776)))), (some ((.tmp 34), false))⟩,
  ⟨(.tmp 39), (.r (.pick (.tmp 34) (.cst (.bool true)) (.tmp 38))), none⟩,
  ⟨(.tmp 40), (.r (.mov (.tmp 39))), none⟩,
  ⟨(.tmp 41), (.r (.off 5 (.loc 3))), (some ((.tmp 40), false))⟩,
  ⟨(.tmp 42), (.r (.off 1 (.tmp 41))), (some ((.tmp 40), false))⟩,
  ⟨(.tmp 43), (.r (.load false 1 (.tmp 42))), (some ((.tmp 40), false))⟩,
  ⟨(.tmp 44), (.r (.bin .lss (.tmp 43) (.cst (.int .i64 0)))), (some ((.tmp 40), false))⟩,
  ⟨(.tmp 45), (.r (.pick (.tmp 40) (.cst (.bool true)) (.tmp 44))), none⟩,
  ⟨(.tmp 46), (.r (.mov (.tmp 45))), none⟩,
  ⟨(.tmp 47), (.r (.off 5 (.loc 3))), (some ((.tmp 46), false))⟩,
  ⟨(.tmp 48), (.r (.off 1 (.tmp 47))), (some ((.tmp 46), false))⟩,
  ⟨(.tmp 49), (.r (.load false 1 (.tmp 48))), (some ((.tmp 46), false))⟩,
  ⟨(.tmp 50), (.r (.bin .gtr (.tmp 49) (.cst (.int .i64 1099511627776)))), (some ((.tmp 46), false))⟩,
  ⟨(.loc 51), (.r (.pick (.tmp 46) (.cst (.bool true)) (.tmp 50))), none⟩])
 (.cond (.loc 51) (.seq (.reg [⟨(.tmp 52), (.call f_glebelaw13_known []), none⟩,
  ⟨(.loc 4), (.r (.mov (.tmp 52))), none⟩])
 .ret)
 .skip))
 (.seq (.reg [⟨(.tmp 54), (.r (.load true 2 (.loc 2))), none⟩,
  ⟨(.tmp 55), (.r (.load true 17 (.loc 3))), none⟩,
  ⟨(.tmp 56), (.call f_image_Apply [(.tmp 54), (.tmp 55)]), none⟩,
  ⟨(.tmp 53), (.r (.mov (.tmp 56))), none⟩,
  ⟨(.tmp 57), (.r (.ext (.tmp 53) 0)), none⟩,
  ⟨(.tmp 58), (.r (.ext (.tmp 53) 1)), none⟩,
  ⟨(.loc 5), (.h (.mk [.nils, .nils])), none⟩,
  ⟨.none, (.h (.store 2 (.loc 5) (.tmp 57))), none⟩,
  ⟨(.loc 6), (.r (.mov (.tmp 58))), none⟩])
 (.seq (.seq (.reg [⟨(.tmp 59), (.r (.mov (.loc 6))), none⟩,
  ⟨(.loc 60), (.r (.bin .neq (.tmp 59) (.cst (.int .i64 0)))), none⟩])
 (.cond (.loc 60) (.seq (.reg [⟨(.tmp 61), (.r (.off 0 (.loc 5))), none⟩,
  ⟨(.tmp 62), (.r (.load false 1 (.tmp 61))), none⟩,
  ⟨(.tmp 63), (.r (.len (.tmp 62))), none⟩,
  ⟨(.tmp 64), (.r (.off 1 (.loc 5))), none⟩,
  ⟨(.tmp 65), (.r (.load false 1 (.tmp 64))), none⟩,
  ⟨(.tmp 66), (.r (.len (.tmp 65))), none⟩,
  ⟨(.tmp 67), (.r (.bin .add (.tmp 63) (.tmp 66))), none⟩,
  ⟨(.tmp 68), (.r (.bin .eql (.tmp 67) (.cst (.int .i64 0)))), none⟩,
  ⟨(.tmp 69), (.r (.mov (.tmp 68))), none⟩,
  ⟨(.tmp 70), (.call f_glebelaw13_known []), (some ((.tmp 69), true))⟩,
  ⟨(.tmp 71), (.r (.pick (.tmp 69) (.tmp 70) (.cst (.bool false)))), none⟩,
  ⟨(.loc 4), (.r (.mov (.tmp 71))), none⟩])
 .ret)
 .skip))
 (.seq (.reg [⟨(.tmp 73), (.r (.load true 2 (.loc 5))), none⟩,
  ⟨(.tmp 74), (.r (.load true 17 (.loc 3))), none⟩,
  ⟨(.tmp 75), (.call f_image_Apply [(.tmp 73), (.tmp 74)]), none⟩,
  ⟨(.tmp 72), (.r (.mov (.tmp 75))), none⟩,
  ⟨(.tmp 76), (.r (.ext (.tmp 72) 0)), none⟩,
  ⟨(.tmp 77), (.r (.ext (.tmp 72) 1)), none⟩,
  ⟨(.loc 7), (.h (.mk [.nils, .nils])), none⟩,
  ⟨.none, (.h (.store 2 (.loc 7) (.tmp 76))), none⟩,
  ⟨(.loc 8), (.r (.mov (.tmp 77))), none⟩])
 (.seq (.dreg ⟨[0, 0, 3, 7, 15, 0, 0, 103, 231, 487, 1023, 2047], 0, [⟨0, 0, false, (.r (.load true 2 (.loc 5))), none⟩,
  ⟨1, 0, false, (.r (.load true 17 (.loc 3))), none⟩,
  ⟨5, 0, false, (.r (.load true 2 (.loc 5))), none⟩,
  ⟨6, 0, false, (.r (.load true 17 (.loc 3))), none⟩,
  ⟨2, 0, true, (.call f_glebelaw13_without [(.tmp 0), (.tmp 1)]), none⟩,
  ⟨3, 0, false, (.r (.x (.fld 0 1 false (.tmp 2)))), none⟩,
  ⟨4, 0, false, (.r (.len (.tmp 3))), none⟩,
  ⟨7, 0, true, (.call f_glebelaw13_without [(.tmp 5), (.tmp 6)]), none⟩,
  ⟨8, 0, false, (.r (.x (.fld 1 1 false (.tmp 7)))), none⟩,
  ⟨9, 0, false, (.r (.len (.tmp 8))), none⟩,
  ⟨10, 0, false, (.r (.bin .add (.tmp 4) (.tmp 9))), none⟩,
  ⟨11, 0, false, (.r (.mov (.tmp 10))), none⟩], [(9, 11)]⟩)
 (.seq (.seq (.reg [⟨(.tmp 89), (.r (.off 0 (.loc 5))), none⟩,
  ⟨(.tmp 90), (.r (.load false 1 (.tmp 89))), none⟩,
  ⟨(.tmp 91), (.r (.len (.tmp 90))), none⟩,
  ⟨(.tmp 92), (.r (.off 1 (.loc 5))), none⟩,
  ⟨(.tmp 93), (.r (.load false 1 (.tmp 92))), none⟩,
  ⟨(.tmp 94), (.r (.len (.tmp 93))), none⟩,
  ⟨(.tmp 95), (.r (.bin .add (.tmp 91) (.tmp 94))), none⟩,
  ⟨(.tmp 96), (.r (.mov (.loc 9))), none⟩,
  ⟨(.tmp 97), (.r (.bin .add (.tmp 96) (.cst (.int .i64 1)))), none⟩,
  ⟨(.tmp 98), (.r (.bin .neq (.tmp 95) (.tmp 97))), none⟩,
  ⟨(.tmp 99), (.r (.mov (.tmp 98))), none⟩,
  ⟨(.tmp 100), (.r (.off 0 (.loc 5))), (some ((.tmp 99), false))⟩,
  ⟨(.tmp 101), (.r (.load false 1 (.tmp 100))), (some ((.tmp 99), false))⟩,
  ⟨(.tmp 102), (.r (.len (.tmp 101))), (some ((.tmp 99), false))⟩,
  ⟨(.tmp 103), (.r (.off 0 (.loc 2))), (some ((.tmp 99), false))⟩,
  ⟨(.tmp 104), (.r (.load false 1 (.tmp 103))), (some ((.tmp 99), false))⟩,
  ⟨(.tmp 105), (.r (.len (.tmp 104))), (some ((.tmp 99), false))⟩,
  ⟨(.tmp 106), (.r (.bin .neq (.tmp 102) (.tmp 105))), (some ((.tmp 99), false))⟩,
  ⟨(.tmp 107), (.r (.mov (.tmp 106))), (some ((.tmp 99), false))⟩,
  ⟨(.tmp 108), (.r (.off 0 (.loc 3))), (some ((.tmp 107), true))⟩,
  ⟨(.tmp 109), (.r (.load false 1 (.tmp 108))), (some ((.tmp 107), true))⟩,
  ⟨(.tmp 110), (.r (.bin .neq (.tmp 109) (.cst (.int .i64 4)))), (some ((.tmp 107), true))⟩,
  ⟨(.tmp 111), (.r (.pick (.tmp 107) (.tmp 110) (.cst (.bool false)))), (some ((.tmp 99), false))⟩,
  ⟨(.loc 112), (.r (.pick (.tmp 99) (.cst (.bool true)) (.tmp 111))), none⟩])
 (.cond (.loc 112) (.seq (.reg [⟨(.loc 4), (.r (.mov (.cst (.bool false)))), none⟩])
 .ret)
 .skip))
 (.seq (.dreg ⟨[0, 1, 3, 7, 7, 31, 7, 7, 255, 511, 1023, 2047, 4095, 8191, 16383, 32767, 65535, 65535, 262143, 524287, 1048575, 2097151, 4194303, 8388607], 0, [⟨0, 0, false, (.r (.load true 2 (.loc 5))), none⟩,
  ⟨1, 0, true, (.call f_glebelaw13_ordered [(.tmp 0)]), none⟩,
  ⟨2, 0, false, (.r (.mov (.tmp 1))), none⟩,
  ⟨3, 0, false, (.r (.load true 2 (.loc 2))), (some ((.tmp 2), true))⟩,
  ⟨4, 0, false, (.r (.load true 17 (.loc 3))), (some ((.tmp 2), true))⟩,
  ⟨6, 0, false, (.r (.load true 2 (.loc 5))), (some ((.tmp 2), true))⟩,
  ⟨7, 0, false, (.r (.load true 17 (.loc 3))), (some ((.tmp 2), true))⟩,
  ⟨5, 0, true, (.call f_glebelaw13_without [(.tmp 3), (.tmp 4)]), (some ((.tmp 2), true))⟩,
  ⟨8, 0, true, (.call f_glebelaw13_without [(.tmp 6), (.tmp 7)]), (some ((.tmp 2), true))⟩,
  ⟨9, 0, true, (.call f_glebekit_SameImage [(.tmp 5), (.tmp 8)]), (some ((.tmp 2), true))⟩,
  ⟨10, 0, false, (.r (.pick (.tmp 2) (.tmp 9) (.cst (.bool false)))), none⟩,
  ⟨11, 0, false, (.r (.mov (.tmp 10))), none⟩,
  ⟨12, 0, false, (.r (.mov (.loc 8))), (some ((.tmp 11), true))⟩,
  ⟨13, 0, false, (.r (.bin .eql (.tmp 12) (.cst (.int .i64 0)))), (some ((.tmp 11), true))⟩,
  ⟨14, 0, false, (.r (.pick (.tmp 11) (.tmp 13) (.cst (.bool false)))), none⟩,
  ⟨15, 0, false, (.r (.mov (.tmp 14))), none⟩,
  ⟨16, 0, false, (.r (.load true 2 (.loc 5))), (some ((.tmp 15), true))⟩,
  ⟨17, 0, false, (.r (.load true 2 (.loc 7))), (some ((.tmp 15), true))⟩,
  ⟨18, 0, true, (.call f_glebekit_SameImage [(.tmp 16), (.tmp 17)]), (some ((.tmp 15), true))⟩,
  ⟨19, 0, false, (.r (.pick (.tmp 15) (.tmp 18) (.cst (.bool false)))), none⟩,
  ⟨20, 0, false, (.r (.mov (.tmp 19))), none⟩,
  ⟨21, 0, true, (.call f_glebelaw13_known []), (some ((.tmp 20), true))⟩,
  ⟨22, 0, false, (.r (.pick (.tmp 20) (.tmp 21) (.cst (.bool false)))), none⟩,
  ⟨23, 0, false, (.r (.mov (.tmp 22))), none⟩], [(4, 23)]⟩)
 .ret)))))))), [(.tmp (.loc 4))]⟩

def c_glebelaw13_ordered_l0 : AC := (.seq (.seq (.reg [⟨(.tmp 7), (.r (.mov (.loc 3))), none⟩,
  ⟨(.tmp 8), (.r (.off 0 (.loc 1))), none⟩,
  ⟨(.tmp 9), (.r (.load false 1 (.tmp 8))), none⟩,
  ⟨(.tmp 10), (.r (.len (.tmp 9))), none⟩,
  ⟨(.loc 11), (.r (.bin .lss (.tmp 7) (.tmp 10))), none⟩])
 (.cond (.loc 11) .skip
 (.exit 0)))
 (.seq (.block 1 (.seq (.dreg ⟨[0, 1, 0, 4, 15, 31, 63, 0, 128, 0, 896, 1920, 3968, 8191], 0, [⟨0, 0, false, (.r (.off 0 (.loc 1))), none⟩,
  ⟨1, 0, false, (.r (.load false 1 (.tmp 0))), none⟩,
  ⟨2, 0, false, (.r (.mov (.loc 3))), none⟩,
  ⟨3, 0, false, (.r (.bin .sub (.tmp 2) (.cst (.int .i64 1)))), none⟩,
  ⟨4, 0, false, (.r (.idx 10 (.tmp 1) (.tmp 3))), none⟩,
  ⟨5, 0, false, (.r (.off 0 (.tmp 4))), none⟩,
  ⟨6, 0, false, (.r (.load false 1 (.tmp 5))), none⟩,
  ⟨7, 0, false, (.r (.off 0 (.loc 1))), none⟩,
  ⟨8, 0, false, (.r (.load false 1 (.tmp 7))), none⟩,
  ⟨9, 0, false, (.r (.mov (.loc 3))), none⟩,
  ⟨10, 0, false, (.r (.idx 10 (.tmp 8) (.tmp 9))), none⟩,
  ⟨11, 0, false, (.r (.off 0 (.tmp 10))), none⟩,
  ⟨12, 0, false, (.r (.load false 1 (.tmp 11))), none⟩,
  ⟨13, 0, false, (.r (.bin .geq (.tmp 6) (.tmp 12))), none⟩], [(27, 13)]⟩)
 (.cond (.loc 27) (.seq (.reg [⟨(.loc 2), (.r (.mov (.cst (.bool false)))), none⟩])
 .ret)
 .skip)))
 (.reg [⟨(.tmp 12), (.r (.mov (.loc 3))), none⟩,
  ⟨(.tmp 13), (.r (.bin .add (.tmp 12) (.cst (.int .i64 1)))), none⟩,
  ⟨(.loc 3), (.r (.mov (.tmp 13))), none⟩])))
def c_glebelaw13_ordered_l1 : AC := (.seq (.seq (.reg [⟨(.tmp 28), (.r (.mov (.loc 4))), none⟩,
  ⟨(.tmp 29), (.r (.off 1 (.loc 1))), none⟩,
  ⟨(.tmp 30), (.r (.load false 1 (.tmp 29))), none⟩,
  ⟨(.tmp 31), (.r (.len (.tmp 30))), none⟩,
  ⟨(.loc 32), (.r (.bin .lss (.tmp 28) (.tmp 31))), none⟩])
 (.cond (.loc 32) .skip
 (.exit 2)))
 (.seq (.block 3 (.seq (.dreg ⟨[0, 1, 0, 4, 15, 31, 0, 64, 0, 448, 960, 0, 0, 6207, 16383], 2, [⟨0, 0, false, (.r (.off 1 (.loc 1))), none⟩,
  ⟨1, 0, false, (.r (.load false 1 (.tmp 0))), none⟩,
  ⟨2, 0, false, (.r (.mov (.loc 4))), none⟩,
  ⟨3, 0, false, (.r (.bin .sub (.tmp 2) (.cst (.int .i64 1)))), none⟩,
  ⟨4, 0, false, (.r (.idx 5 (.tmp 1) (.tmp 3))), none⟩,
  ⟨5, 0, false, (.r (.load true 5 (.tmp 4))), none⟩,
  ⟨6, 0, false, (.r (.off 1 (.loc 1))), none⟩,
  ⟨7, 0, false, (.r (.load false 1 (.tmp 6))), none⟩,
  ⟨8, 0, false, (.r (.mov (.loc 4))), none⟩,
  ⟨9, 0, false, (.r (.idx 5 (.tmp 7) (.tmp 8))), none⟩,
  ⟨10, 0, false, (.r (.load true 5 (.tmp 9))), none⟩,
  ⟨11, 0, false, (.h (.mk [(.int .i64 0), (.int .i64 0), (.int .i64 0), (.int .i64 0), (.int .i64 0)])), none⟩,
  ⟨12, 1, false, (.h (.mk [(.int .i64 0), (.int .i64 0), (.int .i64 0), (.int .i64 0), (.int .i64 0)])), none⟩,
  ⟨13, 2, true, (.h (.store 5 (.tmp 11) (.tmp 5))), none⟩,
  ⟨14, 2, true, (.h (.store 5 (.tmp 12) (.tmp 10))), none⟩], [(5, 11), (6, 12)]⟩)
 (.seq (.reg [⟨(.tmp 46), (.r (.off 0 (.loc 5))), none⟩,
  ⟨(.tmp 47), (.r (.load false 1 (.tmp 46))), none⟩,
  ⟨(.tmp 48), (.r (.off 0 (.loc 6))), none⟩,
  ⟨(.tmp 49), (.r (.load false 1 (.tmp 48))), none⟩,
  ⟨(.tmp 50), (.r (.bin .gtr (.tmp 47) (.tmp 49))), none⟩,
  ⟨(.tmp 51), (.r (.mov (.tmp 50))), none⟩,
  ⟨(.tmp 52), (.r (.off 0 (.loc 5))), (some ((.tmp 51), false))⟩,
  ⟨(.tmp 53), (.r (.load false 1 (.tmp 52))), (some ((.tmp 51), false))⟩,
  ⟨(.tmp 54), (.r (.off 0 (.loc 6))), (some ((.tmp 51), false))⟩,
  ⟨(.tmp 55), (.r (.load false 1 (.tmp 54))), (some ((.tmp 51), false))⟩,
  ⟨(.tmp 56), (.r (.bin .eql (.tmp 53) (.tmp 55))), (some ((.tmp 51), false))⟩,
  ⟨(.tmp 57), (.r (.mov (.tmp 56))), (some ((.tmp 51), false))⟩,
  ⟨(.tmp 58), (.r (.off 1 (.loc 5))), (some ((.tmp 57), true))⟩,
  ⟨(.tmp 59), (.r (.load false 1 (.tmp 58))), (some ((.tmp 57), true))⟩,
  ⟨(.tmp 60), (.r (.off 1 (.loc 6))), (some ((.tmp 57), true))⟩,
  ⟨(.tmp 61), (.r (.load false 1 (.tmp 60))), (some ((.tmp 57), true))⟩,
  ⟨(.tmp 62), (.r (.bin .geq (.tmp 59) (.tmp 61))), (some ((.tmp 57), true))⟩,
  ⟨(.tmp 63), (.r (.pick (.tmp 57) (.tmp 62) (.cst (.bool false)))), (some ((.tmp 51), false))⟩,
  ⟨(.loc 64), (.r (.pick (.tmp 51) (.cst (.bool true)) (.tmp 63))), none⟩])
 (.cond (.loc 64) (.seq (.reg [⟨(.loc 2), (.r (.mov (.cst (.bool false)))), none⟩])
 .ret)
 .skip))))
 (.reg [⟨(.tmp 33), (.r (.mov (.loc 4))), none⟩,
  ⟨(.tmp 34), (.r (.bin .add (.tmp 33) (.cst (.int .i64 1)))), none⟩,
  ⟨(.loc 4), (.r (.mov (.tmp 34))), none⟩])))
/-- glebe/glebelaw13.ordered -/
def c_glebelaw13_ordered : AFn := ⟨65, fun s => List.contains [0, 1, 2, 3, 4, 5, 6, 11, 27, 32, 64] s, (.seq (.reg [⟨(.loc 1), (.h (.box (.loc 0))), none⟩,
  ⟨(.loc 2), (.r (.mov (.cst (.bool false)))), none⟩])
 (.seq (.seq (.reg [⟨(.loc 3), (.r (.mov (.cst (.int .i64 1)))), none⟩])
 (.block 0 (.loop (c_glebelaw13_ordered_l0))))
 (.seq (.seq (.reg [⟨(.loc 4), (.r (.mov (.cst (.int .i64 1)))), none⟩])
 (.block 2 (.loop (c_glebelaw13_ordered_l1))))
 (.seq (.reg [⟨(.loc 2), (.r (.mov (.cst (.bool true)))), none⟩])
 .ret)))), [(.tmp (.loc 2))]⟩

def c_glebelaw13_without_l0 : AC := (.seq (.seq (.reg [⟨(.tmp 8), (.r (.mov (.loc 6))), none⟩,
  ⟨(.tmp 9), (.r (.off 0 (.loc 2))), none⟩,
  ⟨(.tmp 10), (.r (.load false 1 (.tmp 9))), none⟩,
  ⟨(.tmp 11), (.r (.len (.tmp 10))), none⟩,
  ⟨(.loc 12), (.r (.bin .lss (.tmp 8) (.tmp 11))), none⟩])
 (.cond (.loc 12) .skip
 (.exit 0)))
 (.seq (.block 1 (.seq (.dreg ⟨[0, 1, 3, 7, 15, 31, 15, 127, 255, 511, 15, 1039, 4095, 8191], 0, [⟨0, 0, false, (.r (.off 0 (.loc 3))), none⟩,
  ⟨1, 0, false, (.r (.load false 1 (.tmp 0))), none⟩,
  ⟨2, 0, false, (.r (.bin .eql (.tmp 1) (.cst (.int .i64 4)))), none⟩,
  ⟨3, 0, false, (.r (.mov (.tmp 2))), none⟩,
  ⟨4, 0, false, (.r (.off 0 (.loc 2))), (some ((.tmp 3), false))⟩,
  ⟨5, 0, false, (.r (.load false 1 (.tmp 4))), (some ((.tmp 3), false))⟩,
  ⟨6, 0, false, (.r (.mov (.loc 6))), (some ((.tmp 3), false))⟩,
  ⟨7, 0, false, (.r (.idx 10 (.tmp 5) (.tmp 6))), (some ((.tmp 3), false))⟩,
  ⟨8, 0, false, (.r (.off 0 (.tmp 7))), (some ((.tmp 3), false))⟩,
  ⟨9, 0, false, (.r (.load false 1 (.tmp 8))), (some ((.tmp 3), false))⟩,
  ⟨10, 0, false, (.r (.off 1 (.loc 3))), (some ((.tmp 3), false))⟩,
  ⟨11, 0, false, (.r (.load false 1 (.tmp 10))), (some ((.tmp 3), false))⟩,
  ⟨12, 0, false, (.r (.bin .neq (.tmp 9) (.tmp 11))), (some ((.tmp 3), false))⟩,
  ⟨13, 0, false, (.r (.pick (.tmp 3) (.cst (.bool true)) (.tmp 12))), none⟩], [(28, 13)]⟩)
 (.cond (.loc 28) (.dreg ⟨[0, 1, 0, 4, 0, 28, 60, 124, 255, 511, 1023], 1, [⟨0, 0, false, (.r (.off 0 (.loc 5))), none⟩,
  ⟨1, 0, false, (.r (.load false 1 (.tmp 0))), none⟩,
  ⟨2, 0, false, (.r (.off 0 (.loc 2))), none⟩,
  ⟨3, 0, false, (.r (.load false 1 (.tmp 2))), none⟩,
  ⟨4, 0, false, (.r (.mov (.loc 6))), none⟩,
  ⟨5, 0, false, (.r (.idx 10 (.tmp 3) (.tmp 4))), none⟩,
  ⟨6, 0, false, (.r (.load true 10 (.tmp 5))), none⟩,
  ⟨7, 0, false, (.h (.bsl 10 [(.tmp 6)])), none⟩,
  ⟨8, 1, true, (.h (.app 10 160 (.tmp 1) (.tmp 7))), none⟩,
  ⟨9, 1, false, (.r (.off 0 (.loc 5))), none⟩,
  ⟨10, 1, true, (.h (.store 1 (.tmp 9) (.tmp 8))), none⟩], []⟩)
 .skip)))
 (.reg [⟨(.tmp 13), (.r (.mov (.loc 6))), none⟩,
  ⟨(.tmp 14), (.r (.bin .add (.tmp 13) (.cst (.int .i64 1)))), none⟩,
  ⟨(.loc 6), (.r (.mov (.tmp 14))), none⟩])))
def c_glebelaw13_without_l1 : AC := (.seq (.seq (.reg [⟨(.tmp 39), (.r (.mov (.loc 7))), none⟩,
  ⟨(.tmp 40), (.r (.off 1 (.loc 2))), none⟩,
  ⟨(.tmp 41), (.r (.load false 1 (.tmp 40))), none⟩,
  ⟨(.tmp 42), (.r (.len (.tmp 41))), none⟩,
  ⟨(.loc 43), (.r (.bin .lss (.tmp 39) (.tmp 42))), none⟩])
 (.cond (.loc 43) .skip
 (.exit 2)))
 (.seq (.block 3 (.seq (.dreg ⟨[0, 1, 3, 7, 15, 31, 15, 127, 255, 511, 15, 1039, 3087, 8191, 16383, 32767, 65535, 131071, 65535, 524287, 1048575, 2097151, 65535, 4259839, 12648447, 33554431, 67108863], 0, [⟨0, 0, false, (.r (.off 0 (.loc 3))), none⟩,
  ⟨1, 0, false, (.r (.load false 1 (.tmp 0))), none⟩,
  ⟨2, 0, false, (.r (.bin .neq (.tmp 1) (.cst (.int .i64 4)))), none⟩,
  ⟨3, 0, false, (.r (.mov (.tmp 2))), none⟩,
  ⟨4, 0, false, (.r (.off 1 (.loc 2))), (some ((.tmp 3), false))⟩,
  ⟨5, 0, false, (.r (.load false 1 (.tmp 4))), (some ((.tmp 3), false))⟩,
  ⟨6, 0, false, (.r (.mov (.loc 7))), (some ((.tmp 3), false))⟩,
  ⟨7, 0, false, (.r (.idx 5 (.tmp 5) (.tmp 6))), (some ((.tmp 3), false))⟩,
  ⟨8, 0, false, (.r (.off 0 (.tmp 7))), (some ((.tmp 3), false))⟩,
  ⟨9, 0, false, (.r (.load false 1 (.tmp 8))), (some ((.tmp 3), false))⟩,
  ⟨10, 0, false, (.r (.off 12 (.loc 3))), (some ((.tmp 3), false))⟩,
  ⟨11, 0, false, (.r (.off 0 (.tmp 10))), (some ((.tmp 3), false))⟩,
  ⟨12, 0, false, (.r (.load false 1 (.tmp 11))), (some ((.tmp 3), false))⟩,
  ⟨13, 0, false, (.r (.bin .neq (.tmp 9) (.tmp 12))), (some ((.tmp 3), false))⟩,
  ⟨14, 0, false, (.r (.pick (.tmp 3) (.cst (.bool true)) (.tmp 13))), none⟩,
  ⟨15, 0, false, (.r (.mov (.tmp 14))), none⟩,
  ⟨16, 0, false, (.r (.off 1 (.loc 2))), (some ((.tmp 15), false))⟩,
  ⟨17, 0, false, (.r (.load false 1 (.tmp 16))), (some ((.tmp 15), false))⟩,
  ⟨18, 0, false, (.r (.mov (.loc 7))), (some ((.tmp 15), false))⟩,
  ⟨19, 0, false, (.r (.idx 5 (.tmp 17) (.tmp 18))), (some ((.tmp 15), false))⟩,
  ⟨20, 0, false, (.r (.off 1 (.tmp 19))), (some ((.tmp 15), false))⟩,
  ⟨21, 0, false, (.r (.load false 1 (.tmp 20))), (some ((.tmp 15), false))⟩,
  ⟨22, 0, false, (.r (.off 12 (.loc 3))), (some ((.tmp 15), false))⟩,
  ⟨23, 0, false, (.r (.off 1 (.tmp 22))), (some ((.tmp 15), false))⟩,
  ⟨24, 0, false, (.r (.load false 1 (.tmp 23))), (some ((.tmp 15), false))⟩,
  ⟨25, 0, false, (.r (.bin .neq (.tmp 21) (.tmp 24))), (some ((.tmp 15), false))⟩,
  ⟨26, 0, false, (.r (.pick (.tmp 15) (.cst (.bool true)) (.tmp 25))), none⟩], [(72, 26)]⟩)
 (.cond (.loc 72) (.dreg ⟨[0, 1, 0, 4, 0, 28, 60, 124, 255, 511, 1023], 1, [⟨0, 0, false, (.r (.off 1 (.loc 5))), none⟩,
  ⟨1, 0, false, (.r (.load false 1 (.tmp 0))), none⟩,
  ⟨2, 0, false, (.r (.off 1 (.loc 2))), none⟩,
  ⟨3, 0, false, (.r (.load false 1 (.tmp 2))), none⟩,
  ⟨4, 0, false, (.r (.mov (.loc 7))), none⟩,
  ⟨5, 0, false, (.r (.idx 5 (.tmp 3) (.tmp 4))), none⟩,
  ⟨6, 0, false, (.r (.load true 5 (.tmp 5))), none⟩,
  ⟨7, 0, false, (.h (.bsl 5 [(.tmp 6)])), none⟩,
  ⟨8, 1, true, (.h (.app 5 40 (.tmp 1) (.tmp 7))), none⟩,
  ⟨9, 1, false, (.r (.off 1 (.loc 5))), none⟩,
  ⟨10, 1, true, (.h (.store 1 (.tmp 9) (.tmp 8))), none⟩], []⟩)
 .skip)))
 (.reg [⟨(.tmp 44), (.r (.mov (.loc 7))), none⟩,
  ⟨(.tmp 45), (.r (.bin .add (.tmp 44) (.cst (.int .i64 1)))), none⟩,
  ⟨(.loc 7), (.r (.mov (.tmp 45))), none⟩])))
/-- glebe/glebelaw13.without -/
def c_glebelaw13_without : AFn := ⟨84, fun s => List.contains [0, 1, 2, 3, 4, 5, 6, 7, 12, 28, 43, 72] s, (.seq (.reg [⟨(.loc 2), (.h (.box (.loc 0))), none⟩,
  ⟨(.loc 3), (.h (.box (.loc 1))), none⟩,
  ⟨(.loc 4), (.h (.mk [.nils, .nils])), none⟩])
 (.seq (.reg [⟨(.loc 5), (.h (.mk [.nils, .nils])), none⟩])
 (.seq (.seq (.reg [⟨(.loc 6), (.r (.mov (.cst (.int .i64 0)))), none⟩])
 (.block 0 (.loop (c_glebelaw13_without_l0))))
 (.seq (.seq (.reg [⟨(.loc 7), (.r (.mov (.cst (.int .i64 0)))), none⟩])
 (.block 2 (.loop (c_glebelaw13_without_l1))))
 (.seq (.reg [⟨(.tmp 83), (.r (.load true 2 (.loc 5))), none⟩,
  ⟨.none, (.h (.store 2 (.loc 4) (.tmp 83))), none⟩])
 .ret))))), [(.cell (.loc 4) true 2)]⟩

end Glb
