/-
  What functions of the program are, one by one (the functions that they call as parameters), in a form of which something can be shown.
-/
import Derived.Test.YtcegihlhpmdbnaaGreatGlbLibB
set_option linter.unusedSimpArgs false
set_option linter.unusedVariables false
namespace Glb
open Go
set_option maxRecDepth 100000

def c_glebelaw16_ConfKnown_l0 (f0 f1 f2 f3 f4 f5 : FuncId) : AC := (.seq (.seq (.reg [⟨.tmp 48, .r (.mov (.loc 6)), none⟩,
 ⟨.tmp 49, .r (.mov (.loc 3)), none⟩,
 ⟨.tmp 50, .r (.len (.tmp 49)), none⟩,
 ⟨.loc 51, .r (.bin .lss (.tmp 48) (.tmp 50)), none⟩])
 (.cond (.loc 51) .skip
 (.exit 4)))
 (.seq (.block 5 (.seq (.dreg ⟨[0, 0, 3, 7, 0, 0, 48, 112, 0, 0, 768, 1792, 4095, 8191, 16383, 32767, 32767, 131071, 262143, 32767, 32767, 32767, 3178495, 7372799, 32767, 32767, 50364415, 117473279, 32767, 32767, 1073741823, 2147483647, 4294967295], 2, [⟨0, 0, false, .r (.mov (.loc 1)), none⟩,
 ⟨1, 0, false, .r (.mov (.loc 4)), none⟩,
 ⟨2, 0, false, .r (.idx 3 (.tmp 0) (.tmp 1)), none⟩,
 ⟨3, 0, false, .r (.load true 3 (.tmp 2)), none⟩,
 ⟨4, 0, false, .r (.mov (.loc 2)), none⟩,
 ⟨5, 0, false, .r (.mov (.loc 5)), none⟩,
 ⟨6, 0, false, .r (.idx 1 (.tmp 4) (.tmp 5)), none⟩,
 ⟨7, 0, false, .r (.load false 1 (.tmp 6)), none⟩,
 ⟨8, 0, false, .r (.mov (.loc 3)), none⟩,
 ⟨9, 0, false, .r (.mov (.loc 6)), none⟩,
 ⟨10, 0, false, .r (.idx 1 (.tmp 8) (.tmp 9)), none⟩,
 ⟨11, 0, false, .r (.load false 1 (.tmp 10)), none⟩,
 ⟨12, 0, true, .call f1 [.tmp 3, .tmp 7, .tmp 11], none⟩,
 ⟨13, 0, false, .r (.not (.tmp 12)), none⟩,
 ⟨14, 0, false, .r (.mov (.tmp 13)), none⟩,
 ⟨15, 0, false, .r (.mov (.loc 1)), some (.tmp 14, false)⟩,
 ⟨16, 0, false, .r (.mov (.loc 4)), some (.tmp 14, false)⟩,
 ⟨17, 0, false, .r (.idx 3 (.tmp 15) (.tmp 16)), some (.tmp 14, false)⟩,
 ⟨18, 0, false, .r (.load true 3 (.tmp 17)), some (.tmp 14, false)⟩,
 ⟨19, 0, false, .r (.mov (.loc 5)), some (.tmp 14, false)⟩,
 ⟨20, 0, false, .r (.mov (.loc 2)), some (.tmp 14, false)⟩,
 ⟨21, 0, false, .r (.mov (.loc 5)), some (.tmp 14, false)⟩,
 ⟨22, 0, false, .r (.idx 1 (.tmp 20) (.tmp 21)), some (.tmp 14, false)⟩,
 ⟨23, 0, false, .r (.load false 1 (.tmp 22)), some (.tmp 14, false)⟩,
 ⟨24, 0, false, .r (.mov (.loc 3)), some (.tmp 14, false)⟩,
 ⟨25, 0, false, .r (.mov (.loc 6)), some (.tmp 14, false)⟩,
 ⟨26, 0, false, .r (.idx 1 (.tmp 24) (.tmp 25)), some (.tmp 14, false)⟩,
 ⟨27, 0, false, .r (.load false 1 (.tmp 26)), some (.tmp 14, false)⟩,
 ⟨28, 0, false, .h (.bsl 1 [(.cst (.int .i64 1)), (.cst (.int .i64 2)), (.cst (.int .i64 3)), (.cst (.int .i64 5))]), some (.tmp 14, false)⟩,
 ⟨29, 1, false, .h (.bsl 1 [(.cst (.int .i64 1)), (.cst (.int .i64 2)), (.cst (.int .i64 4)), (.cst (.int .i64 6)), (.cst (.int .i64 3))]), some (.tmp 14, false)⟩,
 ⟨30, 2, true, .call f2 [.tmp 18, .tmp 19, .tmp 23, .tmp 27, .tmp 28, .tmp 29], some (.tmp 14, false)⟩,
 ⟨31, 2, false, .r (.not (.tmp 30)), some (.tmp 14, false)⟩,
 ⟨32, 2, false, .r (.pick (.tmp 14) (.cst (.bool true)) (.tmp 31)), none⟩], [(86, 32)]⟩)
 (.cond (.loc 86) (.seq (.reg [⟨.loc 0, .r (.mov (.cst (.bool false))), none⟩])
 .ret)
 .skip)))
 (.reg [⟨.tmp 52, .r (.mov (.loc 6)), none⟩,
 ⟨.tmp 53, .r (.bin .add (.tmp 52) (.cst (.int .i64 1))), none⟩,
 ⟨.loc 6, .r (.mov (.tmp 53)), none⟩])))
def c_glebelaw16_ConfKnown_l1 (f0 f1 f2 f3 f4 f5 : FuncId) : AC := (.seq (.seq (.reg [⟨.tmp 42, .r (.mov (.loc 5)), none⟩,
 ⟨.tmp 43, .r (.mov (.loc 2)), none⟩,
 ⟨.tmp 44, .r (.len (.tmp 43)), none⟩,
 ⟨.loc 45, .r (.bin .lss (.tmp 42) (.tmp 44)), none⟩])
 (.cond (.loc 45) .skip
 (.exit 2)))
 (.seq (.block 3 (.seq (.seq (.reg [⟨.loc 6, .r (.mov (.cst (.int .i64 0))), none⟩])
 (.block 4 (.loop (c_glebelaw16_ConfKnown_l0 f0 f1 f2 f3 f4 f5))))
 (.seq (.dreg ⟨[0, 0, 3, 7, 0, 0, 48, 112, 255, 511], 0, [⟨0, 0, false, .r (.mov (.loc 1)), none⟩,
 ⟨1, 0, false, .r (.mov (.loc 4)), none⟩,
 ⟨2, 0, false, .r (.idx 3 (.tmp 0) (.tmp 1)), none⟩,
 ⟨3, 0, false, .r (.load true 3 (.tmp 2)), none⟩,
 ⟨4, 0, false, .r (.mov (.loc 2)), none⟩,
 ⟨5, 0, false, .r (.mov (.loc 5)), none⟩,
 ⟨6, 0, false, .r (.idx 1 (.tmp 4) (.tmp 5)), none⟩,
 ⟨7, 0, false, .r (.load false 1 (.tmp 6)), none⟩,
 ⟨8, 0, true, .call f3 [.tmp 3, .tmp 7], none⟩,
 ⟨9, 0, false, .r (.not (.tmp 8)), none⟩], [(96, 9)]⟩)
 (.cond (.loc 96) (.seq (.reg [⟨.loc 0, .r (.mov (.cst (.bool false))), none⟩])
 .ret)
 .skip))))
 (.reg [⟨.tmp 46, .r (.mov (.loc 5)), none⟩,
 ⟨.tmp 47, .r (.bin .add (.tmp 46) (.cst (.int .i64 1))), none⟩,
 ⟨.loc 5, .r (.mov (.tmp 47)), none⟩])))
def c_glebelaw16_ConfKnown_l2 (f0 f1 f2 f3 f4 f5 : FuncId) : AC := (.seq (.seq (.reg [⟨.tmp 36, .r (.mov (.loc 4)), none⟩,
 ⟨.tmp 37, .r (.mov (.loc 1)), none⟩,
 ⟨.tmp 38, .r (.len (.tmp 37)), none⟩,
 ⟨.loc 39, .r (.bin .lss (.tmp 36) (.tmp 38)), none⟩])
 (.cond (.loc 39) .skip
 (.exit 0)))
 (.seq (.block 1 (.seq (.seq (.reg [⟨.loc 5, .r (.mov (.cst (.int .i64 0))), none⟩])
 (.block 2 (.loop (c_glebelaw16_ConfKnown_l1 f0 f1 f2 f3 f4 f5))))
 (.seq (.reg [⟨.tmp 97, .r (.mov (.loc 1)), none⟩,
 ⟨.tmp 98, .r (.mov (.loc 4)), none⟩,
 ⟨.tmp 99, .r (.idx 3 (.tmp 97) (.tmp 98)), none⟩,
 ⟨.tmp 100, .r (.load true 3 (.tmp 99)), none⟩,
 ⟨.tmp 101, .r (.mov (.loc 4)), none⟩,
 ⟨.tmp 102, .h (.bsl 1 [(.cst (.int .u8 9))]), none⟩,
 ⟨.tmp 103, .r (.build [(.int .i64 0), (.int .i64 0), .nils] [(1, 1, (.cst (.int .i64 2))), (2, 1, .tmp 102)]), none⟩,
 ⟨.tmp 104, .r (.build [(.int .i64 0), (.int .i64 0), .nils] [(1, 1, (.cst (.int .i64 1)))]), none⟩,
 ⟨.tmp 105, .h (.bsl 3 [.tmp 103, .tmp 104]), none⟩,
 ⟨.tmp 106, .r (.build [(.int .i64 0), (.int .i64 0), .nils] [(0, 1, .tmp 101), (2, 1, .tmp 105)]), none⟩,
 ⟨.tmp 107, .r (.build [(.int .i64 0), (.int .i64 0), (.int .i64 0), (.int .i64 0), (.int .i64 0), .nils, .nils, .nils, .nils, .nils] [(6, 3, .tmp 100), (3, 3, .tmp 106)]), none⟩,
 ⟨.loc 7, .h (.mk [(.int .i64 0), (.int .i64 0), (.int .i64 0), (.int .i64 0), (.int .i64 0), .nils, .nils, .nils, .nils, .nils]), none⟩,
 ⟨.none, .h (.store 10 (.loc 7) (.tmp 107)), none⟩])
 (.seq (.reg [⟨.tmp 108, .r (.load true 10 (.loc 7)), none⟩,
 ⟨.tmp 109, .call f4 [.tmp 108], none⟩,
 ⟨.tmp 110, .r (.not (.tmp 109)), none⟩,
 ⟨.tmp 111, .r (.mov (.tmp 110)), none⟩,
 ⟨.tmp 112, .r (.mov (.loc 1)), some (.tmp 111, false)⟩,
 ⟨.tmp 113, .r (.mov (.loc 4)), some (.tmp 111, false)⟩,
 ⟨.tmp 114, .r (.idx 3 (.tmp 112) (.tmp 113)), some (.tmp 111, false)⟩,
 ⟨.tmp 115, .r (.load true 3 (.tmp 114)), some (.tmp 111, false)⟩,
 ⟨.tmp 116, .r (.build [(.int .i64 0), (.int .i64 0), (.int .i64 0), (.int .i64 0), (.int .i64 0), .nils, .nils, .nils, .nils, .nils] [(6, 3, .tmp 115)]), some (.tmp 111, false)⟩,
 ⟨.tmp 117, .call f4 [.tmp 116], some (.tmp 111, false)⟩,
 ⟨.tmp 118, .r (.not (.tmp 117)), some (.tmp 111, false)⟩,
 ⟨.loc 119, .r (.pick (.tmp 111) (.cst (.bool true)) (.tmp 118)), none⟩])
 (.cond (.loc 119) (.seq (.reg [⟨.loc 0, .r (.mov (.cst (.bool false))), none⟩])
 .ret)
 .skip)))))
 (.reg [⟨.tmp 40, .r (.mov (.loc 4)), none⟩,
 ⟨.tmp 41, .r (.bin .add (.tmp 40) (.cst (.int .i64 1))), none⟩,
 ⟨.loc 4, .r (.mov (.tmp 41)), none⟩])))
/-- glebe/glebelaw16.ConfKnown -/
def c_glebelaw16_ConfKnown (f0 f1 f2 f3 f4 f5 : FuncId) : AFn := ⟨121, fun s => List.contains [0, 1, 2, 3, 4, 5, 6, 7, 39, 45, 51, 86, 96, 119] s, (.seq (.reg [⟨.loc 0, .r (.mov (.cst (.bool false))), none⟩])
 (.seq (.reg [⟨.tmp 8, .r (.build [.nils, .nils, .nils] []), none⟩,
 ⟨.tmp 9, .call f0 [], none⟩,
 ⟨.tmp 10, .h (.bsl 1 [(.cst (.int .i64 3))]), none⟩,
 ⟨.tmp 11, .r (.build [.nils, .nils, .nils] [(0, 1, .tmp 10)]), none⟩,
 ⟨.tmp 12, .h (.bsl 1 [(.cst (.int .i64 1))]), none⟩,
 ⟨.tmp 13, .h (.bsl 1 [(.cst (.int .i64 2))]), none⟩,
 ⟨.tmp 14, .r (.build [.nils, .nils, .nils] [(0, 1, .tmp 12), (2, 1, .tmp 13)]), none⟩,
 ⟨.tmp 15, .h (.bsl 1 [(.cst (.int .i64 1)), (.cst (.int .i64 2)), (.cst (.int .i64 3))]), none⟩,
 ⟨.tmp 16, .h (.bsl 1 [(.cst (.int .i64 1)), (.cst (.int .i64 2))]), none⟩,
 ⟨.tmp 17, .r (.build [.nils, .nils, .nils] [(0, 1, .tmp 15), (1, 1, .tmp 16)]), none⟩,
 ⟨.tmp 18, .h (.bsl 1 [(.cst (.int .i64 1)), (.cst (.int .i64 2))]), none⟩,
 ⟨.tmp 19, .h (.bsl 1 [(.cst (.int .i64 3))]), none⟩,
 ⟨.tmp 20, .h (.bsl 1 [(.cst (.int .i64 4))]), none⟩,
 ⟨.tmp 21, .r (.build [.nils, .nils, .nils] [(0, 1, .tmp 18), (1, 1, .tmp 19), (2, 1, .tmp 20)]), none⟩,
 ⟨.tmp 22, .h (.bsl 1 [(.cst (.int .i64 2)), (.cst (.int .i64 1))]), none⟩,
 ⟨.tmp 23, .r (.build [.nils, .nils, .nils] [(0, 1, .tmp 22)]), none⟩,
 ⟨.tmp 24, .h (.bsl 1 [(.cst (.int .i64 1)), (.cst (.int .i64 2)), (.cst (.int .i64 3)), (.cst (.int .i64 4)), (.cst (.int .i64 5)), (.cst (.int .i64 6)), (.cst (.int .i64 7))]), none⟩,
 ⟨.tmp 25, .r (.build [.nils, .nils, .nils] [(0, 1, .tmp 24)]), none⟩,
 ⟨.tmp 26, .h (.bsl 1 [(.cst (.int .i64 1)), (.cst (.int .i64 5))]), none⟩,
 ⟨.tmp 27, .h (.bsl 1 [(.cst (.int .i64 2)), (.cst (.int .i64 6))]), none⟩,
 ⟨.tmp 28, .r (.build [.nils, .nils, .nils] [(0, 1, .tmp 26), (2, 1, .tmp 27)]), none⟩,
 ⟨.tmp 29, .h (.bsl 3 [.tmp 8, .tmp 9, .tmp 11, .tmp 14, .tmp 17, .tmp 21, .tmp 23, .tmp 25, .tmp 28]), none⟩,
 ⟨.loc 1, .r (.mov (.tmp 29)), none⟩])
 (.seq (.reg [⟨.tmp 30, .h (.bsl 1 [(.cst (.int .i64 (-9223372036854775808))), (.cst (.int .i64 (-1))), (.cst (.int .i64 0)), (.cst (.int .i64 1)), (.cst (.int .i64 2)), (.cst (.int .i64 3)), (.cst (.int .i64 4)), (.cst (.int .i64 5)), (.cst (.int .i64 6)), (.cst (.int .i64 7)), (.cst (.int .i64 8)), (.cst (.int .i64 9223372036854775807))]), none⟩,
 ⟨.loc 2, .r (.mov (.tmp 30)), none⟩])
 (.seq (.reg [⟨.tmp 31, .h (.bsl 1 [(.cst (.int .i64 2))]), none⟩,
 ⟨.tmp 32, .h (.bsl 1 [(.cst (.int .i64 2)), (.cst (.int .i64 6))]), none⟩,
 ⟨.tmp 33, .h (.bsl 1 [(.cst (.int .i64 1)), (.cst (.int .i64 2)), (.cst (.int .i64 3)), (.cst (.int .i64 4)), (.cst (.int .i64 5)), (.cst (.int .i64 6)), (.cst (.int .i64 7))]), none⟩,
 ⟨.tmp 34, .h (.bsl 1 [(.cst (.int .i64 0)), (.cst (.int .i64 9))]), none⟩,
 ⟨.tmp 35, .h (.bsl 1 [(.cst .nils), .tmp 31, .tmp 32, .tmp 33, .tmp 34]), none⟩,
 ⟨.loc 3, .r (.mov (.tmp 35)), none⟩])
 (.seq (.seq (.reg [⟨.loc 4, .r (.mov (.cst (.int .i64 0))), none⟩])
 (.block 0 (.loop (c_glebelaw16_ConfKnown_l2 f0 f1 f2 f3 f4 f5))))
 (.seq (.reg [⟨.tmp 120, .call f5 [], none⟩,
 ⟨.loc 0, .r (.mov (.tmp 120)), none⟩])
 .ret)))))), [(.tmp (.loc 0))]⟩

/-- glebe/glebelaw16.three -/
def c_glebelaw16_three : AFn := ⟨3, fun s => List.contains [0] s, (.seq (.reg [⟨.loc 0, .h (.mk [.nils, .nils, .nils]), none⟩])
 (.seq (.reg [⟨.tmp 1, .h (.bsl 1 [(.cst (.int .i64 1)), (.cst (.int .i64 2)), (.cst (.int .i64 3))]), none⟩,
 ⟨.tmp 2, .r (.build [.nils, .nils, .nils] [(0, 1, .tmp 1)]), none⟩,
 ⟨.none, .h (.store 3 (.loc 0) (.tmp 2)), none⟩])
 .ret)), [(.cell (.loc 0) true 3)]⟩

/-- glebe/glebelaw16.ConfSteps -/
def c_glebelaw16_ConfSteps (f0 f1 f2 f3 f4 f5 f6 f7 f8 f9 f10 f11 f12 : FuncId) : AFn := ⟨120, fun s => List.contains [0, 1, 2, 3, 6, 7, 8, 9, 10, 11, 12, 13, 14, 15, 16, 17, 18, 19, 20, 27, 102] s, (.seq (.reg [⟨.loc 3, .h (.box (.loc 0)), none⟩,
 ⟨.loc 6, .r (.mov (.cst (.bool false))), none⟩])
 (.seq (.seq (.reg [⟨.tmp 21, .r (.load true 3 (.loc 3)), none⟩,
 ⟨.tmp 22, .call f0 [.tmp 21, (.cst (.int .i64 300))], none⟩,
 ⟨.tmp 23, .r (.mov (.tmp 22)), none⟩,
 ⟨.tmp 24, .r (.mov (.loc 2)), some (.tmp 23, false)⟩,
 ⟨.tmp 25, .r (.len (.tmp 24)), some (.tmp 23, false)⟩,
 ⟨.tmp 26, .r (.bin .gtr (.tmp 25) (.cst (.int .i64 300))), some (.tmp 23, false)⟩,
 ⟨.loc 27, .r (.pick (.tmp 23) (.cst (.bool true)) (.tmp 26)), none⟩])
 (.cond (.loc 27) (.seq (.reg [⟨.tmp 28, .call f1 [], none⟩,
 ⟨.loc 6, .r (.mov (.tmp 28)), none⟩])
 .ret)
 .skip))
 (.seq (.reg [⟨.tmp 29, .r (.load true 3 (.loc 3)), none⟩,
 ⟨.tmp 30, .call f2 [.tmp 29], none⟩,
 ⟨.loc 7, .h (.mk [.nils, .nils, .nils]), none⟩,
 ⟨.none, .h (.store 3 (.loc 7) (.tmp 30)), none⟩])
 (.seq (.reg [⟨.tmp 31, .r (.mov (.loc 2)), none⟩,
 ⟨.tmp 32, .call f3 [.tmp 31], none⟩,
 ⟨.loc 8, .r (.mov (.tmp 32)), none⟩])
 (.seq (.reg [⟨.tmp 34, .r (.load true 3 (.loc 7)), none⟩,
 ⟨.tmp 35, .r (.mov (.loc 1)), none⟩,
 ⟨.tmp 36, .call f4 [.tmp 34, .tmp 35], none⟩,
 ⟨.tmp 33, .r (.mov (.tmp 36)), none⟩,
 ⟨.tmp 37, .r (.ext (.tmp 33) 0), none⟩,
 ⟨.tmp 38, .r (.ext (.tmp 33) 1), none⟩,
 ⟨.loc 9, .h (.mk [.nils, .nils, .nils]), none⟩,
 ⟨.none, .h (.store 3 (.loc 9) (.tmp 37)), none⟩,
 ⟨.loc 10, .r (.mov (.tmp 38)), none⟩])
 (.seq (.reg [⟨.tmp 40, .r (.load true 3 (.loc 7)), none⟩,
 ⟨.tmp 41, .r (.mov (.loc 1)), none⟩,
 ⟨.tmp 42, .call f5 [.tmp 40, .tmp 41], none⟩,
 ⟨.tmp 39, .r (.mov (.tmp 42)), none⟩,
 ⟨.tmp 43, .r (.ext (.tmp 39) 0), none⟩,
 ⟨.tmp 44, .r (.ext (.tmp 39) 1), none⟩,
 ⟨.loc 11, .h (.mk [.nils, .nils, .nils]), none⟩,
 ⟨.none, .h (.store 3 (.loc 11) (.tmp 43)), none⟩,
 ⟨.loc 12, .r (.mov (.tmp 44)), none⟩])
 (.seq (.dreg ⟨[0, 0, 0, 4, 14, 31, 63, 127, 127, 0, 767, 2047], 1, [⟨0, 0, false, .r (.load true 3 (.loc 7)), none⟩,
 ⟨1, 0, false, .r (.mov (.loc 8)), none⟩,
 ⟨2, 0, false, .r (.mov (.loc 2)), none⟩,
 ⟨3, 0, false, .r (.len (.tmp 2)), none⟩,
 ⟨4, 0, false, .r (.slc 1 (.tmp 1) none (some (.tmp 3)) none), none⟩,
 ⟨9, 0, false, .h (.mk [.nils, .nils, .nils]), none⟩,
 ⟨5, 0, true, .call f6 [.tmp 0, .tmp 4], none⟩,
 ⟨6, 0, false, .r (.mov (.tmp 5)), none⟩,
 ⟨7, 0, false, .r (.ext (.tmp 6) 0), none⟩,
 ⟨8, 0, false, .r (.ext (.tmp 6) 1), none⟩,
 ⟨10, 1, true, .h (.store 3 (.tmp 9) (.tmp 7)), none⟩,
 ⟨11, 1, false, .r (.mov (.tmp 8)), none⟩], [(13, 9), (14, 11)]⟩)
 (.seq (.reg [⟨.tmp 55, .r (.load true 3 (.loc 3)), none⟩,
 ⟨.tmp 56, .r (.mov (.loc 1)), none⟩,
 ⟨.tmp 57, .call f7 [.tmp 55, .tmp 56], none⟩,
 ⟨.tmp 54, .r (.mov (.tmp 57)), none⟩,
 ⟨.tmp 58, .r (.ext (.tmp 54) 0), none⟩,
 ⟨.tmp 59, .r (.ext (.tmp 54) 1), none⟩,
 ⟨.loc 15, .h (.mk [.nils, .nils, .nils]), none⟩,
 ⟨.none, .h (.store 3 (.loc 15) (.tmp 58)), none⟩,
 ⟨.loc 16, .r (.mov (.tmp 59)), none⟩])
 (.seq (.reg [⟨.tmp 61, .r (.load true 3 (.loc 3)), none⟩,
 ⟨.tmp 62, .r (.mov (.loc 1)), none⟩,
 ⟨.tmp 63, .call f8 [.tmp 61, .tmp 62], none⟩,
 ⟨.tmp 60, .r (.mov (.tmp 63)), none⟩,
 ⟨.tmp 64, .r (.ext (.tmp 60) 0), none⟩,
 ⟨.tmp 65, .r (.ext (.tmp 60) 1), none⟩,
 ⟨.loc 17, .h (.mk [.nils, .nils, .nils]), none⟩,
 ⟨.none, .h (.store 3 (.loc 17) (.tmp 64)), none⟩,
 ⟨.loc 18, .r (.mov (.tmp 65)), none⟩])
 (.seq (.reg [⟨.tmp 67, .r (.load true 3 (.loc 3)), none⟩,
 ⟨.tmp 68, .r (.mov (.loc 2)), none⟩,
 ⟨.tmp 69, .call f9 [.tmp 67, .tmp 68], none⟩,
 ⟨.tmp 66, .r (.mov (.tmp 69)), none⟩,
 ⟨.tmp 70, .r (.ext (.tmp 66) 0), none⟩,
 ⟨.tmp 71, .r (.ext (.tmp 66) 1), none⟩,
 ⟨.loc 19, .h (.mk [.nils, .nils, .nils]), none⟩,
 ⟨.none, .h (.store 3 (.loc 19) (.tmp 70)), none⟩,
 ⟨.loc 20, .r (.mov (.tmp 71)), none⟩])
 (.seq (.seq (.reg [⟨.tmp 72, .r (.mov (.loc 10)), none⟩,
 ⟨.tmp 73, .r (.mov (.loc 16)), none⟩,
 ⟨.tmp 74, .r (.bin .neq (.tmp 72) (.tmp 73)), none⟩,
 ⟨.tmp 75, .r (.mov (.tmp 74)), none⟩,
 ⟨.tmp 76, .r (.mov (.loc 12)), some (.tmp 75, false)⟩,
 ⟨.tmp 77, .r (.mov (.loc 18)), some (.tmp 75, false)⟩,
 ⟨.tmp 78, .r (.bin .neq (.tmp 76) (.tmp 77)), some (.tmp 75, false)⟩,
 ⟨.tmp 79, .r (.pick (.tmp 75) (.cst (.bool true)) (.tmp 78)), none⟩,
 ⟨.tmp 80, .r (.mov (.tmp 79)), none⟩,
 ⟨.tmp 81, .r (.mov (.loc 14)), some (.tmp 80, false)⟩,
 ⟨.tmp 82, .r (.mov (.loc 20)), some (.tmp 80, false)⟩,
 ⟨.tmp 83, .r (.beq .neq (.tmp 81) (.tmp 82)), some (.tmp 80, false)⟩,
 ⟨.tmp 84, .r (.pick (.tmp 80) (.cst (.bool true)) (.tmp 83)), none⟩,
 ⟨.tmp 85, .r (.mov (.tmp 84)), none⟩,
 ⟨.tmp 86, .r (.load true 3 (.loc 9)), some (.tmp 85, false)⟩,
 ⟨.tmp 87, .r (.load true 3 (.loc 15)), some (.tmp 85, false)⟩,
 ⟨.tmp 88, .call f10 [.tmp 86, .tmp 87], some (.tmp 85, false)⟩,
 ⟨.tmp 89, .r (.not (.tmp 88)), some (.tmp 85, false)⟩,
 ⟨.tmp 90, .r (.pick (.tmp 85) (.cst (.bool true)) (.tmp 89)), none⟩,
 ⟨.tmp 91, .r (.mov (.tmp 90)), none⟩,
 ⟨.tmp 92, .r (.load true 3 (.loc 11)), some (.tmp 91, false)⟩,
 ⟨.tmp 93, .r (.load true 3 (.loc 17)), some (.tmp 91, false)⟩,
 ⟨.tmp 94, .call f10 [.tmp 92, .tmp 93], some (.tmp 91, false)⟩,
 ⟨.tmp 95, .r (.not (.tmp 94)), some (.tmp 91, false)⟩,
 ⟨.tmp 96, .r (.pick (.tmp 91) (.cst (.bool true)) (.tmp 95)), none⟩,
 ⟨.tmp 97, .r (.mov (.tmp 96)), none⟩,
 ⟨.tmp 98, .r (.load true 3 (.loc 13)), some (.tmp 97, false)⟩,
 ⟨.tmp 99, .r (.load true 3 (.loc 19)), some (.tmp 97, false)⟩,
 ⟨.tmp 100, .call f10 [.tmp 98, .tmp 99], some (.tmp 97, false)⟩,
 ⟨.tmp 101, .r (.not (.tmp 100)), some (.tmp 97, false)⟩,
 ⟨.loc 102, .r (.pick (.tmp 97) (.cst (.bool true)) (.tmp 101)), none⟩])
 (.cond (.loc 102) (.seq (.reg [⟨.loc 6, .r (.mov (.cst (.bool false))), none⟩])
 .ret)
 .skip))
 (.seq (.reg [⟨.tmp 103, .r (.load true 3 (.loc 9)), none⟩,
 ⟨.tmp 104, .call f11 [.tmp 103], none⟩])
 (.seq (.reg [⟨.tmp 105, .r (.load true 3 (.loc 11)), none⟩,
 ⟨.tmp 106, .call f11 [.tmp 105], none⟩])
 (.seq (.reg [⟨.tmp 107, .r (.load true 3 (.loc 13)), none⟩,
 ⟨.tmp 108, .call f11 [.tmp 107], none⟩])
 (.seq (.reg [⟨.tmp 109, .r (.load true 3 (.loc 7)), none⟩,
 ⟨.tmp 110, .r (.load true 3 (.loc 3)), none⟩,
 ⟨.tmp 111, .call f10 [.tmp 109, .tmp 110], none⟩,
 ⟨.tmp 112, .r (.mov (.tmp 111)), none⟩,
 ⟨.tmp 113, .r (.mov (.loc 8)), some (.tmp 112, true)⟩,
 ⟨.tmp 114, .r (.mov (.loc 2)), some (.tmp 112, true)⟩,
 ⟨.tmp 115, .call f12 [.tmp 113, .tmp 114], some (.tmp 112, true)⟩,
 ⟨.tmp 116, .r (.pick (.tmp 112) (.tmp 115) (.cst (.bool false))), none⟩,
 ⟨.tmp 117, .r (.mov (.tmp 116)), none⟩,
 ⟨.tmp 118, .call f1 [], some (.tmp 117, true)⟩,
 ⟨.tmp 119, .r (.pick (.tmp 117) (.tmp 118) (.cst (.bool false))), none⟩,
 ⟨.loc 6, .r (.mov (.tmp 119)), none⟩])
 .ret))))))))))))))), [(.tmp (.loc 6))]⟩

/-- glebe/glebelaw16.ConfSafe -/
def c_glebelaw16_ConfSafe (f0 f1 f2 f3 f4 f5 f6 f7 : FuncId) : AFn := ⟨82, fun s => List.contains [0, 1, 2, 3, 4, 5, 6, 12, 13, 14, 31, 42, 56, 66] s, (.seq (.reg [⟨.loc 6, .h (.box (.loc 0)), none⟩,
 ⟨.loc 12, .r (.mov (.cst (.bool false))), none⟩])
 (.seq (.seq (.reg [⟨.tmp 15, .r (.load true 3 (.loc 6)), none⟩,
 ⟨.tmp 16, .call f0 [.tmp 15, (.cst (.int .i64 300))], none⟩,
 ⟨.tmp 17, .r (.mov (.tmp 16)), none⟩,
 ⟨.tmp 18, .r (.mov (.loc 3)), some (.tmp 17, false)⟩,
 ⟨.tmp 19, .r (.len (.tmp 18)), some (.tmp 17, false)⟩,
 ⟨.tmp 20, .r (.bin .gtr (.tmp 19) (.cst (.int .i64 300))), some (.tmp 17, false)⟩,
 ⟨.tmp 21, .r (.pick (.tmp 17) (.cst (.bool true)) (.tmp 20)), none⟩,
 ⟨.tmp 22, .r (.mov (.tmp 21)), none⟩,
 ⟨.tmp 23, .r (.mov (.loc 4)), some (.tmp 22, false)⟩,
 ⟨.tmp 24, .r (.len (.tmp 23)), some (.tmp 22, false)⟩,
 ⟨.tmp 25, .r (.bin .gtr (.tmp 24) (.cst (.int .i64 300))), some (.tmp 22, false)⟩,
 ⟨.tmp 26, .r (.pick (.tmp 22) (.cst (.bool true)) (.tmp 25)), none⟩,
 ⟨.tmp 27, .r (.mov (.tmp 26)), none⟩,
 ⟨.tmp 28, .r (.mov (.loc 5)), some (.tmp 27, false)⟩,
 ⟨.tmp 29, .r (.len (.tmp 28)), some (.tmp 27, false)⟩,
 ⟨.tmp 30, .r (.bin .gtr (.tmp 29) (.cst (.int .i64 300))), some (.tmp 27, false)⟩,
 ⟨.loc 31, .r (.pick (.tmp 27) (.cst (.bool true)) (.tmp 30)), none⟩])
 (.cond (.loc 31) (.seq (.reg [⟨.tmp 32, .call f1 [], none⟩,
 ⟨.loc 12, .r (.mov (.tmp 32)), none⟩])
 .ret)
 .skip))
 (.seq (.reg [⟨.tmp 34, .r (.load true 3 (.loc 6)), none⟩,
 ⟨.tmp 35, .r (.mov (.loc 1)), none⟩,
 ⟨.tmp 36, .r (.mov (.loc 2)), none⟩,
 ⟨.tmp 37, .r (.mov (.loc 3)), none⟩,
 ⟨.tmp 38, .call f2 [.tmp 34, .tmp 35, .tmp 36, .tmp 37], none⟩,
 ⟨.tmp 33, .r (.mov (.tmp 38)), none⟩,
 ⟨.tmp 39, .r (.ext (.tmp 33) 0), none⟩,
 ⟨.tmp 40, .r (.ext (.tmp 33) 1), none⟩,
 ⟨.loc 13, .h (.mk [.nils, .nils, .nils]), none⟩,
 ⟨.none, .h (.store 3 (.loc 13) (.tmp 39)), none⟩,
 ⟨.loc 14, .r (.mov (.tmp 40)), none⟩])
 (.seq (.seq (.reg [⟨.tmp 41, .r (.mov (.loc 14)), none⟩,
 ⟨.loc 42, .r (.not (.tmp 41)), none⟩])
 (.cond (.loc 42) (.seq (.reg [⟨.tmp 43, .call f1 [], none⟩,
 ⟨.loc 12, .r (.mov (.tmp 43)), none⟩])
 .ret)
 .skip))
 (.seq (.seq (.reg [⟨.tmp 44, .r (.load true 3 (.loc 6)), none⟩,
 ⟨.tmp 45, .call f3 [.tmp 44], none⟩,
 ⟨.tmp 46, .r (.bin .neq (.tmp 45) (.cst (.int .i64 0))), none⟩,
 ⟨.tmp 47, .r (.mov (.tmp 46)), none⟩,
 ⟨.tmp 48, .r (.load true 3 (.loc 13)), some (.tmp 47, false)⟩,
 ⟨.tmp 49, .call f3 [.tmp 48], some (.tmp 47, false)⟩,
 ⟨.tmp 50, .r (.bin .neq (.tmp 49) (.cst (.int .i64 0))), some (.tmp 47, false)⟩,
 ⟨.tmp 51, .r (.pick (.tmp 47) (.cst (.bool true)) (.tmp 50)), none⟩,
 ⟨.tmp 52, .r (.mov (.tmp 51)), none⟩,
 ⟨.tmp 53, .r (.load true 3 (.loc 13)), some (.tmp 52, false)⟩,
 ⟨.tmp 54, .r (.load true 3 (.loc 6)), some (.tmp 52, false)⟩,
 ⟨.tmp 55, .call f4 [.tmp 53, .tmp 54], some (.tmp 52, false)⟩,
 ⟨.loc 56, .r (.pick (.tmp 52) (.cst (.bool true)) (.tmp 55)), none⟩])
 (.cond (.loc 56) (.seq (.reg [⟨.loc 12, .r (.mov (.cst (.bool false))), none⟩])
 .ret)
 .skip))
 (.seq (.seq (.reg [⟨.tmp 57, .r (.load true 3 (.loc 6)), none⟩,
 ⟨.tmp 58, .r (.mov (.loc 4)), none⟩,
 ⟨.tmp 59, .call f5 [.tmp 57, .tmp 58], none⟩,
 ⟨.tmp 60, .r (.not (.tmp 59)), none⟩,
 ⟨.tmp 61, .r (.mov (.tmp 60)), none⟩,
 ⟨.tmp 62, .r (.load true 3 (.loc 13)), some (.tmp 61, false)⟩,
 ⟨.tmp 63, .r (.mov (.loc 5)), some (.tmp 61, false)⟩,
 ⟨.tmp 64, .call f5 [.tmp 62, .tmp 63], some (.tmp 61, false)⟩,
 ⟨.tmp 65, .r (.not (.tmp 64)), some (.tmp 61, false)⟩,
 ⟨.loc 66, .r (.pick (.tmp 61) (.cst (.bool true)) (.tmp 65)), none⟩])
 (.cond (.loc 66) (.seq (.reg [⟨.tmp 67, .call f1 [], none⟩,
 ⟨.loc 12, .r (.mov (.tmp 67)), none⟩])
 .ret)
 .skip))
 (.seq (.dreg ⟨[0, 0, 3, 0, 15, 0, 63, 127, 255, 511, 1023, 2047, 4095, 8191, 16383], 0, [⟨0, 0, false, .r (.mov (.loc 4)), none⟩,
 ⟨1, 0, false, .r (.mov (.loc 5)), none⟩,
 ⟨3, 0, false, .r (.load true 3 (.loc 6)), none⟩,
 ⟨5, 0, false, .r (.load true 3 (.loc 13)), none⟩,
 ⟨2, 0, true, .call f6 [.tmp 0, .tmp 1], none⟩,
 ⟨4, 0, true, .call f7 [.tmp 3], none⟩,
 ⟨6, 0, true, .call f7 [.tmp 5], none⟩,
 ⟨7, 0, true, .call f6 [.tmp 4, .tmp 6], none⟩,
 ⟨8, 0, true, .call f6 [.tmp 2, .tmp 7], none⟩,
 ⟨9, 0, false, .r (.len (.tmp 8)), none⟩,
 ⟨10, 0, false, .r (.bin .gtr (.tmp 9) (.cst (.int .i64 0))), none⟩,
 ⟨11, 0, false, .r (.mov (.tmp 10)), none⟩,
 ⟨12, 0, true, .call f1 [], some (.tmp 11, true)⟩,
 ⟨13, 0, false, .r (.pick (.tmp 11) (.tmp 12) (.cst (.bool false))), none⟩,
 ⟨14, 0, false, .r (.mov (.tmp 13)), none⟩], [(12, 14)]⟩)
 .ret))))))), [(.tmp (.loc 12))]⟩

/-- glebe/glebelaw16.ConfComes -/
def c_glebelaw16_ConfComes (f0 f1 f2 f3 f4 f5 f6 : FuncId) : AFn := ⟨182, fun s => List.contains [0, 1, 2, 4, 5, 6, 7, 8, 9, 10, 11, 13, 14, 15, 16, 17, 18, 20, 30, 99, 122, 130, 180] s, (.seq (.reg [⟨.loc 2, .h (.box (.loc 0)), none⟩,
 ⟨.loc 4, .r (.mov (.cst (.bool false))), none⟩])
 (.seq (.seq (.reg [⟨.tmp 19, .r (.load true 3 (.loc 2)), none⟩,
 ⟨.loc 20, .call f0 [.tmp 19, (.cst (.int .i64 300))], none⟩])
 (.cond (.loc 20) (.seq (.reg [⟨.tmp 21, .call f1 [], none⟩,
 ⟨.loc 4, .r (.mov (.tmp 21)), none⟩])
 .ret)
 .skip))
 (.seq (.reg [⟨.tmp 22, .h (.bsl 1 [(.cst (.int .i64 1)), (.cst (.int .i64 2)), (.cst (.int .i64 3)), (.cst (.int .i64 4)), (.cst (.int .i64 5)), (.cst (.int .i64 6)), (.cst (.int .i64 7))]), none⟩,
 ⟨.loc 5, .r (.mov (.tmp 22)), none⟩])
 (.seq (.reg [⟨.tmp 24, .r (.load true 3 (.loc 2)), none⟩,
 ⟨.tmp 25, .r (.mov (.loc 1)), none⟩,
 ⟨.tmp 26, .call f2 [.tmp 24, .tmp 25], none⟩,
 ⟨.tmp 23, .r (.mov (.tmp 26)), none⟩,
 ⟨.tmp 27, .r (.ext (.tmp 23) 0), none⟩,
 ⟨.tmp 28, .r (.ext (.tmp 23) 1), none⟩,
 ⟨.loc 6, .h (.mk [.nils, .nils, .nils]), none⟩,
 ⟨.none, .h (.store 3 (.loc 6) (.tmp 27)), none⟩,
 ⟨.loc 7, .r (.mov (.tmp 28)), none⟩])
 (.seq (.seq (.reg [⟨.tmp 29, .r (.mov (.loc 7)), none⟩,
 ⟨.loc 30, .r (.bin .eql (.tmp 29) (.cst (.int .i64 0))), none⟩])
 (.cond (.loc 30) (.seq (.reg [⟨.tmp 32, .r (.load true 3 (.loc 6)), none⟩,
 ⟨.tmp 33, .r (.mov (.loc 5)), none⟩,
 ⟨.tmp 34, .call f3 [.tmp 32, .tmp 33], none⟩,
 ⟨.tmp 31, .r (.mov (.tmp 34)), none⟩,
 ⟨.tmp 35, .r (.ext (.tmp 31) 0), none⟩,
 ⟨.tmp 36, .r (.ext (.tmp 31) 1), none⟩,
 ⟨.loc 8, .h (.mk [.nils, .nils, .nils]), none⟩,
 ⟨.none, .h (.store 3 (.loc 8) (.tmp 35)), none⟩,
 ⟨.loc 9, .r (.mov (.tmp 36)), none⟩])
 (.seq (.reg [⟨.tmp 38, .r (.load true 3 (.loc 8)), none⟩,
 ⟨.tmp 39, .call f3 [.tmp 38, (.cst .nils)], none⟩,
 ⟨.tmp 37, .r (.mov (.tmp 39)), none⟩,
 ⟨.tmp 40, .r (.ext (.tmp 37) 0), none⟩,
 ⟨.tmp 41, .r (.ext (.tmp 37) 1), none⟩,
 ⟨.loc 10, .h (.mk [.nils, .nils, .nils]), none⟩,
 ⟨.none, .h (.store 3 (.loc 10) (.tmp 40)), none⟩,
 ⟨.loc 11, .r (.mov (.tmp 41)), none⟩])
 (.seq (.reg [⟨.tmp 43, .r (.load true 3 (.loc 10)), none⟩,
 ⟨.tmp 44, .r (.mov (.loc 5)), none⟩,
 ⟨.tmp 45, .call f3 [.tmp 43, .tmp 44], none⟩,
 ⟨.tmp 42, .r (.mov (.tmp 45)), none⟩,
 ⟨.tmp 46, .r (.ext (.tmp 42) 0), none⟩,
 ⟨.tmp 47, .r (.ext (.tmp 42) 1), none⟩,
 ⟨.tmp 12, .h (.mk [.nils, .nils, .nils]), none⟩,
 ⟨.none, .h (.store 3 (.tmp 12) (.tmp 46)), none⟩,
 ⟨.loc 13, .r (.mov (.tmp 47)), none⟩])
 (.seq (.seq (.dreg ⟨[0, 1, 3, 7, 15, 31, 63, 127, 255, 511, 1023, 2047, 4095, 8191, 16383, 32767, 65535, 131071, 262143, 524287, 1048575, 2097151, 4194303, 8388607, 16777215, 4194303, 37748735, 104857599, 239075327, 536870911, 1073741823, 2147483647, 4294967295, 8589934591, 4294967295, 21474836479, 68719476735, 137438953471, 274877906943, 549755813887, 1099511627775, 2199023255551, 4398046511103, 2199023255551, 10995116277759, 35184372088831, 70368744177663, 2199023255551, 142936511610879, 424411488321535, 1125899906842623, 2251799813685247], 1, [⟨0, 0, false, .r (.mov (.loc 9)), none⟩,
 ⟨1, 0, false, .r (.not (.tmp 0)), none⟩,
 ⟨2, 0, false, .r (.mov (.tmp 1)), none⟩,
 ⟨3, 0, false, .r (.mov (.loc 11)), some (.tmp 2, false)⟩,
 ⟨4, 0, false, .r (.not (.tmp 3)), some (.tmp 2, false)⟩,
 ⟨5, 0, false, .r (.pick (.tmp 2) (.cst (.bool true)) (.tmp 4)), none⟩,
 ⟨6, 0, false, .r (.mov (.tmp 5)), none⟩,
 ⟨7, 0, false, .r (.mov (.loc 13)), some (.tmp 6, false)⟩,
 ⟨8, 0, false, .r (.pick (.tmp 6) (.cst (.bool true)) (.tmp 7)), none⟩,
 ⟨9, 0, false, .r (.mov (.tmp 8)), none⟩,
 ⟨10, 0, false, .r (.off 1 (.loc 10)), some (.tmp 9, false)⟩,
 ⟨11, 0, false, .r (.load false 1 (.tmp 10)), some (.tmp 9, false)⟩,
 ⟨12, 0, false, .r (.len (.tmp 11)), some (.tmp 9, false)⟩,
 ⟨13, 0, false, .r (.bin .gtr (.tmp 12) (.cst (.int .i64 0))), some (.tmp 9, false)⟩,
 ⟨14, 0, false, .r (.pick (.tmp 9) (.cst (.bool true)) (.tmp 13)), none⟩,
 ⟨15, 0, false, .r (.mov (.tmp 14)), none⟩,
 ⟨16, 0, false, .r (.off 2 (.loc 10)), some (.tmp 15, false)⟩,
 ⟨17, 0, false, .r (.load false 1 (.tmp 16)), some (.tmp 15, false)⟩,
 ⟨18, 0, false, .r (.len (.tmp 17)), some (.tmp 15, false)⟩,
 ⟨19, 0, false, .r (.bin .gtr (.tmp 18) (.cst (.int .i64 0))), some (.tmp 15, false)⟩,
 ⟨20, 0, false, .r (.pick (.tmp 15) (.cst (.bool true)) (.tmp 19)), none⟩,
 ⟨21, 0, false, .r (.mov (.tmp 20)), none⟩,
 ⟨22, 0, false, .r (.off 0 (.loc 10)), some (.tmp 21, false)⟩,
 ⟨23, 0, false, .r (.load false 1 (.tmp 22)), some (.tmp 21, false)⟩,
 ⟨24, 0, false, .r (.len (.tmp 23)), some (.tmp 21, false)⟩,
 ⟨25, 0, false, .r (.off 0 (.loc 2)), some (.tmp 21, false)⟩,
 ⟨26, 0, false, .r (.load false 1 (.tmp 25)), some (.tmp 21, false)⟩,
 ⟨27, 0, false, .r (.len (.tmp 26)), some (.tmp 21, false)⟩,
 ⟨28, 0, false, .r (.bin .add (.tmp 27) (.cst (.int .i64 1))), some (.tmp 21, false)⟩,
 ⟨29, 0, false, .r (.bin .neq (.tmp 24) (.tmp 28)), some (.tmp 21, false)⟩,
 ⟨30, 0, false, .r (.pick (.tmp 21) (.cst (.bool true)) (.tmp 29)), none⟩,
 ⟨31, 0, false, .r (.mov (.tmp 30)), none⟩,
 ⟨32, 0, false, .r (.off 0 (.loc 10)), some (.tmp 31, false)⟩,
 ⟨33, 0, false, .r (.load false 1 (.tmp 32)), some (.tmp 31, false)⟩,
 ⟨34, 0, false, .r (.mov (.loc 1)), some (.tmp 31, false)⟩,
 ⟨35, 0, false, .h (.bsl 1 [.tmp 34]), some (.tmp 31, false)⟩,
 ⟨36, 1, true, .call f4 [.tmp 33, .tmp 35], some (.tmp 31, false)⟩,
 ⟨37, 1, false, .r (.len (.tmp 36)), some (.tmp 31, false)⟩,
 ⟨38, 1, false, .r (.bin .neq (.tmp 37) (.cst (.int .i64 1))), some (.tmp 31, false)⟩,
 ⟨39, 1, false, .r (.pick (.tmp 31) (.cst (.bool true)) (.tmp 38)), none⟩,
 ⟨40, 1, false, .r (.mov (.tmp 39)), none⟩,
 ⟨41, 1, false, .r (.off 0 (.loc 10)), some (.tmp 40, false)⟩,
 ⟨42, 1, false, .r (.load false 1 (.tmp 41)), some (.tmp 40, false)⟩,
 ⟨43, 1, false, .r (.off 0 (.loc 2)), some (.tmp 40, false)⟩,
 ⟨44, 1, false, .r (.load false 1 (.tmp 43)), some (.tmp 40, false)⟩,
 ⟨47, 1, false, .r (.off 0 (.loc 2)), some (.tmp 40, false)⟩,
 ⟨48, 1, false, .r (.load false 1 (.tmp 47)), some (.tmp 40, false)⟩,
 ⟨49, 1, false, .r (.len (.tmp 48)), some (.tmp 40, false)⟩,
 ⟨45, 1, true, .call f4 [.tmp 42, .tmp 44], some (.tmp 40, false)⟩,
 ⟨46, 1, false, .r (.len (.tmp 45)), some (.tmp 40, false)⟩,
 ⟨50, 1, false, .r (.bin .neq (.tmp 46) (.tmp 49)), some (.tmp 40, false)⟩,
 ⟨51, 1, false, .r (.pick (.tmp 40) (.cst (.bool true)) (.tmp 50)), none⟩], [(99, 51)]⟩)
 (.cond (.loc 99) (.seq (.reg [⟨.loc 4, .r (.mov (.cst (.bool false))), none⟩])
 .ret)
 .skip))
 (.seq (.reg [⟨.tmp 101, .r (.load true 3 (.loc 10)), none⟩,
 ⟨.tmp 102, .r (.mov (.loc 1)), none⟩,
 ⟨.tmp 103, .call f5 [.tmp 101, .tmp 102], none⟩,
 ⟨.tmp 100, .r (.mov (.tmp 103)), none⟩,
 ⟨.tmp 104, .r (.ext (.tmp 100) 0), none⟩,
 ⟨.tmp 105, .r (.ext (.tmp 100) 1), none⟩,
 ⟨.loc 14, .h (.mk [.nils, .nils, .nils]), none⟩,
 ⟨.none, .h (.store 3 (.loc 14) (.tmp 104)), none⟩,
 ⟨.loc 15, .r (.mov (.tmp 105)), none⟩])
 (.seq (.reg [⟨.tmp 107, .r (.load true 3 (.loc 14)), none⟩,
 ⟨.tmp 108, .call f3 [.tmp 107, (.cst .nils)], none⟩,
 ⟨.tmp 106, .r (.mov (.tmp 108)), none⟩,
 ⟨.tmp 109, .r (.ext (.tmp 106) 0), none⟩,
 ⟨.tmp 110, .r (.ext (.tmp 106) 1), none⟩,
 ⟨.loc 16, .h (.mk [.nils, .nils, .nils]), none⟩,
 ⟨.none, .h (.store 3 (.loc 16) (.tmp 109)), none⟩,
 ⟨.loc 11, .r (.mov (.tmp 110)), none⟩])
 (.seq (.reg [⟨.tmp 111, .r (.mov (.loc 15)), none⟩,
 ⟨.tmp 112, .r (.bin .neq (.tmp 111) (.cst (.int .i64 0))), none⟩,
 ⟨.tmp 113, .r (.mov (.tmp 112)), none⟩,
 ⟨.tmp 114, .r (.mov (.loc 11)), some (.tmp 113, false)⟩,
 ⟨.tmp 115, .r (.not (.tmp 114)), some (.tmp 113, false)⟩,
 ⟨.tmp 116, .r (.pick (.tmp 113) (.cst (.bool true)) (.tmp 115)), none⟩,
 ⟨.tmp 117, .r (.mov (.tmp 116)), none⟩,
 ⟨.tmp 118, .r (.load true 3 (.loc 16)), some (.tmp 117, false)⟩,
 ⟨.tmp 119, .r (.load true 3 (.loc 2)), some (.tmp 117, false)⟩,
 ⟨.tmp 120, .call f6 [.tmp 118, .tmp 119], some (.tmp 117, false)⟩,
 ⟨.tmp 121, .r (.not (.tmp 120)), some (.tmp 117, false)⟩,
 ⟨.loc 122, .r (.pick (.tmp 117) (.cst (.bool true)) (.tmp 121)), none⟩])
 (.cond (.loc 122) (.seq (.reg [⟨.loc 4, .r (.mov (.cst (.bool false))), none⟩])
 .ret)
 .skip))))))))
 .skip))
 (.seq (.reg [⟨.tmp 124, .r (.load true 3 (.loc 2)), none⟩,
 ⟨.tmp 125, .r (.mov (.loc 1)), none⟩,
 ⟨.tmp 126, .call f5 [.tmp 124, .tmp 125], none⟩,
 ⟨.tmp 123, .r (.mov (.tmp 126)), none⟩,
 ⟨.tmp 127, .r (.ext (.tmp 123) 0), none⟩,
 ⟨.tmp 128, .r (.ext (.tmp 123) 1), none⟩,
 ⟨.none, .h (.store 3 (.loc 6) (.tmp 127)), none⟩,
 ⟨.loc 7, .r (.mov (.tmp 128)), none⟩])
 (.seq (.seq (.reg [⟨.tmp 129, .r (.mov (.loc 7)), none⟩,
 ⟨.loc 130, .r (.bin .eql (.tmp 129) (.cst (.int .i64 0))), none⟩])
 (.cond (.loc 130) (.seq (.reg [⟨.tmp 132, .r (.load true 3 (.loc 6)), none⟩,
 ⟨.tmp 133, .call f3 [.tmp 132, (.cst .nils)], none⟩,
 ⟨.tmp 131, .r (.mov (.tmp 133)), none⟩,
 ⟨.tmp 134, .r (.ext (.tmp 131) 0), none⟩,
 ⟨.tmp 135, .r (.ext (.tmp 131) 1), none⟩,
 ⟨.loc 17, .h (.mk [.nils, .nils, .nils]), none⟩,
 ⟨.none, .h (.store 3 (.loc 17) (.tmp 134)), none⟩,
 ⟨.loc 18, .r (.mov (.tmp 135)), none⟩])
 (.seq (.dreg ⟨[0, 1, 3, 7, 15, 31, 63, 127, 255, 511, 1023, 2047, 4095, 8191, 16383, 32767, 65535, 131071, 32767, 294911, 819199, 1867775, 4194303, 8388607, 16777215, 33554431, 67108863, 33554431, 167772159, 536870911, 1073741823, 2147483647, 4294967295, 8589934591, 17179869183, 34359738367, 17179869183, 85899345919, 274877906943, 549755813887, 17179869183, 1116691496959, 3315714752511, 8796093022207, 17592186044415], 1, [⟨0, 0, false, .r (.mov (.loc 18)), none⟩,
 ⟨1, 0, false, .r (.not (.tmp 0)), none⟩,
 ⟨2, 0, false, .r (.mov (.tmp 1)), none⟩,
 ⟨3, 0, false, .r (.off 1 (.loc 17)), some (.tmp 2, false)⟩,
 ⟨4, 0, false, .r (.load false 1 (.tmp 3)), some (.tmp 2, false)⟩,
 ⟨5, 0, false, .r (.len (.tmp 4)), some (.tmp 2, false)⟩,
 ⟨6, 0, false, .r (.bin .gtr (.tmp 5) (.cst (.int .i64 0))), some (.tmp 2, false)⟩,
 ⟨7, 0, false, .r (.pick (.tmp 2) (.cst (.bool true)) (.tmp 6)), none⟩,
 ⟨8, 0, false, .r (.mov (.tmp 7)), none⟩,
 ⟨9, 0, false, .r (.off 2 (.loc 17)), some (.tmp 8, false)⟩,
 ⟨10, 0, false, .r (.load false 1 (.tmp 9)), some (.tmp 8, false)⟩,
 ⟨11, 0, false, .r (.len (.tmp 10)), some (.tmp 8, false)⟩,
 ⟨12, 0, false, .r (.bin .gtr (.tmp 11) (.cst (.int .i64 0))), some (.tmp 8, false)⟩,
 ⟨13, 0, false, .r (.pick (.tmp 8) (.cst (.bool true)) (.tmp 12)), none⟩,
 ⟨14, 0, false, .r (.mov (.tmp 13)), none⟩,
 ⟨15, 0, false, .r (.off 0 (.loc 17)), some (.tmp 14, false)⟩,
 ⟨16, 0, false, .r (.load false 1 (.tmp 15)), some (.tmp 14, false)⟩,
 ⟨17, 0, false, .r (.len (.tmp 16)), some (.tmp 14, false)⟩,
 ⟨18, 0, false, .r (.off 0 (.loc 2)), some (.tmp 14, false)⟩,
 ⟨19, 0, false, .r (.load false 1 (.tmp 18)), some (.tmp 14, false)⟩,
 ⟨20, 0, false, .r (.len (.tmp 19)), some (.tmp 14, false)⟩,
 ⟨21, 0, false, .r (.bin .sub (.tmp 20) (.cst (.int .i64 1))), some (.tmp 14, false)⟩,
 ⟨22, 0, false, .r (.bin .neq (.tmp 17) (.tmp 21)), some (.tmp 14, false)⟩,
 ⟨23, 0, false, .r (.pick (.tmp 14) (.cst (.bool true)) (.tmp 22)), none⟩,
 ⟨24, 0, false, .r (.mov (.tmp 23)), none⟩,
 ⟨25, 0, false, .r (.off 0 (.loc 17)), some (.tmp 24, false)⟩,
 ⟨26, 0, false, .r (.load false 1 (.tmp 25)), some (.tmp 24, false)⟩,
 ⟨27, 0, false, .r (.mov (.loc 1)), some (.tmp 24, false)⟩,
 ⟨28, 0, false, .h (.bsl 1 [.tmp 27]), some (.tmp 24, false)⟩,
 ⟨29, 1, true, .call f4 [.tmp 26, .tmp 28], some (.tmp 24, false)⟩,
 ⟨30, 1, false, .r (.len (.tmp 29)), some (.tmp 24, false)⟩,
 ⟨31, 1, false, .r (.bin .neq (.tmp 30) (.cst (.int .i64 0))), some (.tmp 24, false)⟩,
 ⟨32, 1, false, .r (.pick (.tmp 24) (.cst (.bool true)) (.tmp 31)), none⟩,
 ⟨33, 1, false, .r (.mov (.tmp 32)), none⟩,
 ⟨34, 1, false, .r (.off 0 (.loc 17)), some (.tmp 33, false)⟩,
 ⟨35, 1, false, .r (.load false 1 (.tmp 34)), some (.tmp 33, false)⟩,
 ⟨36, 1, false, .r (.off 0 (.loc 2)), some (.tmp 33, false)⟩,
 ⟨37, 1, false, .r (.load false 1 (.tmp 36)), some (.tmp 33, false)⟩,
 ⟨40, 1, false, .r (.off 0 (.loc 17)), some (.tmp 33, false)⟩,
 ⟨41, 1, false, .r (.load false 1 (.tmp 40)), some (.tmp 33, false)⟩,
 ⟨42, 1, false, .r (.len (.tmp 41)), some (.tmp 33, false)⟩,
 ⟨38, 1, true, .call f4 [.tmp 35, .tmp 37], some (.tmp 33, false)⟩,
 ⟨39, 1, false, .r (.len (.tmp 38)), some (.tmp 33, false)⟩,
 ⟨43, 1, false, .r (.bin .neq (.tmp 39) (.tmp 42)), some (.tmp 33, false)⟩,
 ⟨44, 1, false, .r (.pick (.tmp 33) (.cst (.bool true)) (.tmp 43)), none⟩], [(180, 44)]⟩)
 (.cond (.loc 180) (.seq (.reg [⟨.loc 4, .r (.mov (.cst (.bool false))), none⟩])
 .ret)
 .skip)))
 .skip))
 (.seq (.reg [⟨.tmp 181, .call f1 [], none⟩,
 ⟨.loc 4, .r (.mov (.tmp 181)), none⟩])
 .ret)))))))), [(.tmp (.loc 4))]⟩

/-- glebe/glebelaw16.ConfOf -/
def c_glebelaw16_ConfOf (f0 f1 f2 f3 f4 f5 f6 f7 : FuncId) : AFn := ⟨80, fun s => List.contains [0, 1, 2, 3, 4, 5, 6, 7, 8, 9, 10, 34, 66] s, (.seq (.reg [⟨.loc 1, .h (.box (.loc 0)), none⟩,
 ⟨.loc 2, .r (.mov (.cst (.bool false))), none⟩])
 (.seq (.seq (.reg [⟨.tmp 11, .r (.off 3 (.loc 1)), none⟩,
 ⟨.tmp 12, .r (.load true 3 (.tmp 11)), none⟩,
 ⟨.loc 3, .h (.mk [(.int .i64 0), (.int .i64 0), .nils]), none⟩,
 ⟨.none, .h (.store 3 (.loc 3) (.tmp 12)), none⟩])
 (.seq (.reg [⟨.tmp 13, .r (.off 0 (.loc 3)), none⟩,
 ⟨.tmp 14, .r (.load false 1 (.tmp 13)), none⟩,
 ⟨.tmp 15, .r (.bin .lss (.tmp 14) (.cst (.int .i64 0))), none⟩,
 ⟨.tmp 16, .r (.mov (.tmp 15)), none⟩,
 ⟨.tmp 17, .r (.off 0 (.loc 3)), some (.tmp 16, false)⟩,
 ⟨.tmp 18, .r (.load false 1 (.tmp 17)), some (.tmp 16, false)⟩,
 ⟨.tmp 19, .r (.bin .gtr (.tmp 18) (.cst (.int .i64 1099511627776))), some (.tmp 16, false)⟩,
 ⟨.tmp 20, .r (.pick (.tmp 16) (.cst (.bool true)) (.tmp 19)), none⟩,
 ⟨.tmp 21, .r (.mov (.tmp 20)), none⟩,
 ⟨.tmp 22, .r (.off 1 (.loc 3)), some (.tmp 21, false)⟩,
 ⟨.tmp 23, .r (.load false 1 (.tmp 22)), some (.tmp 21, false)⟩,
 ⟨.tmp 24, .r (.bin .lss (.tmp 23) (.cst (.int .i64 0))), some (.tmp 21, false)⟩,
 ⟨.tmp 25, .r (.pick (.tmp 21) (.cst (.bool true)) (.tmp 24)), none⟩,
 ⟨.tmp 26, .r (.mov (.tmp 25)), none⟩,
 ⟨.tmp 27, .r (.off 1 (.loc 3)), some (.tmp 26, false)⟩,
 ⟨.tmp 28, .r (.load false 1 (.tmp 27)), some (.tmp 26, false)⟩,
 ⟨.tmp 29, .r (.bin .gtr (.tmp 28) (.cst (.int .i64 1099511627776))), some (.tmp 26, false)⟩,
 ⟨.tmp 30, .r (.pick (.tmp 26) (.cst (.bool true)) (.tmp 29)), none⟩,
 ⟨.tmp 31, .r (.mov (.tmp 30)), none⟩,
 ⟨.tmp 32, .r (.load true 10 (.loc 1)), some (.tmp 31, false)⟩,
 ⟨.tmp 33, .call f0 [.tmp 32, (.cst (.int .i64 2000)), (.cst (.int .i64 65536))], some (.tmp 31, false)⟩,
 ⟨.loc 34, .r (.pick (.tmp 31) (.cst (.bool true)) (.tmp 33)), none⟩])
 (.cond (.loc 34) (.seq (.reg [⟨.tmp 35, .call f1 [], none⟩,
 ⟨.loc 2, .r (.mov (.tmp 35)), none⟩])
 .ret)
 .skip)))
 (.seq (.reg [⟨.tmp 36, .r (.load true 10 (.loc 1)), none⟩,
 ⟨.tmp 37, .call f2 [.tmp 36], none⟩,
 ⟨.loc 4, .h (.mk [(.int .i64 0), (.int .i64 0), (.int .i64 0), (.int .i64 0), (.int .i64 0), .nils, .nils, .nils, .nils, .nils]), none⟩,
 ⟨.none, .h (.store 10 (.loc 4) (.tmp 37)), none⟩])
 (.seq (.reg [⟨.tmp 39, .r (.load true 10 (.loc 4)), none⟩,
 ⟨.tmp 40, .call f3 [.tmp 39], none⟩,
 ⟨.tmp 38, .r (.mov (.tmp 40)), none⟩,
 ⟨.tmp 41, .r (.ext (.tmp 38) 0), none⟩,
 ⟨.tmp 42, .r (.ext (.tmp 38) 1), none⟩,
 ⟨.loc 5, .h (.mk [.nils, .nils, .nils]), none⟩,
 ⟨.none, .h (.store 3 (.loc 5) (.tmp 41)), none⟩,
 ⟨.loc 6, .r (.mov (.tmp 42)), none⟩])
 (.seq (.reg [⟨.tmp 44, .r (.load true 10 (.loc 4)), none⟩,
 ⟨.tmp 45, .call f3 [.tmp 44], none⟩,
 ⟨.tmp 43, .r (.mov (.tmp 45)), none⟩,
 ⟨.tmp 46, .r (.ext (.tmp 43) 0), none⟩,
 ⟨.tmp 47, .r (.ext (.tmp 43) 1), none⟩,
 ⟨.loc 7, .h (.mk [.nils, .nils, .nils]), none⟩,
 ⟨.none, .h (.store 3 (.loc 7) (.tmp 46)), none⟩,
 ⟨.loc 8, .r (.mov (.tmp 47)), none⟩])
 (.seq (.reg [⟨.tmp 49, .r (.load true 10 (.loc 1)), none⟩,
 ⟨.tmp 50, .call f4 [.tmp 49], none⟩,
 ⟨.tmp 48, .r (.mov (.tmp 50)), none⟩,
 ⟨.tmp 51, .r (.ext (.tmp 48) 0), none⟩,
 ⟨.tmp 52, .r (.ext (.tmp 48) 1), none⟩,
 ⟨.loc 9, .h (.mk [.nils, .nils, .nils]), none⟩,
 ⟨.none, .h (.store 3 (.loc 9) (.tmp 51)), none⟩,
 ⟨.loc 10, .r (.mov (.tmp 52)), none⟩])
 (.seq (.seq (.reg [⟨.tmp 53, .r (.mov (.loc 6)), none⟩,
 ⟨.tmp 54, .r (.mov (.loc 10)), none⟩,
 ⟨.tmp 55, .r (.bin .neq (.tmp 53) (.tmp 54)), none⟩,
 ⟨.tmp 56, .r (.mov (.tmp 55)), none⟩,
 ⟨.tmp 57, .r (.mov (.loc 8)), some (.tmp 56, false)⟩,
 ⟨.tmp 58, .r (.mov (.loc 10)), some (.tmp 56, false)⟩,
 ⟨.tmp 59, .r (.bin .neq (.tmp 57) (.tmp 58)), some (.tmp 56, false)⟩,
 ⟨.tmp 60, .r (.pick (.tmp 56) (.cst (.bool true)) (.tmp 59)), none⟩,
 ⟨.tmp 61, .r (.mov (.tmp 60)), none⟩,
 ⟨.tmp 62, .r (.load true 3 (.loc 5)), some (.tmp 61, false)⟩,
 ⟨.tmp 63, .r (.load true 3 (.loc 9)), some (.tmp 61, false)⟩,
 ⟨.tmp 64, .call f5 [.tmp 62, .tmp 63], some (.tmp 61, false)⟩,
 ⟨.tmp 65, .r (.not (.tmp 64)), some (.tmp 61, false)⟩,
 ⟨.loc 66, .r (.pick (.tmp 61) (.cst (.bool true)) (.tmp 65)), none⟩])
 (.cond (.loc 66) (.seq (.reg [⟨.loc 2, .r (.mov (.cst (.bool false))), none⟩])
 .ret)
 .skip))
 (.seq (.reg [⟨.tmp 67, .r (.load true 3 (.loc 5)), none⟩,
 ⟨.tmp 68, .call f6 [.tmp 67], none⟩])
 (.seq (.reg [⟨.tmp 69, .r (.load true 3 (.loc 7)), none⟩,
 ⟨.tmp 70, .r (.load true 3 (.loc 9)), none⟩,
 ⟨.tmp 71, .call f5 [.tmp 69, .tmp 70], none⟩,
 ⟨.tmp 72, .r (.mov (.tmp 71)), none⟩,
 ⟨.tmp 73, .r (.load true 10 (.loc 4)), some (.tmp 72, true)⟩,
 ⟨.tmp 74, .r (.load true 10 (.loc 1)), some (.tmp 72, true)⟩,
 ⟨.tmp 75, .call f7 [.tmp 73, .tmp 74], some (.tmp 72, true)⟩,
 ⟨.tmp 76, .r (.pick (.tmp 72) (.tmp 75) (.cst (.bool false))), none⟩,
 ⟨.tmp 77, .r (.mov (.tmp 76)), none⟩,
 ⟨.tmp 78, .call f1 [], some (.tmp 77, true)⟩,
 ⟨.tmp 79, .r (.pick (.tmp 77) (.tmp 78) (.cst (.bool false))), none⟩,
 ⟨.loc 2, .r (.mov (.tmp 79)), none⟩])
 .ret))))))))), [(.tmp (.loc 2))]⟩

/-- glebe/glebelaw16.works -/
def c_glebelaw16_works (f0 f1 f2 f3 : FuncId) : AFn := ⟨56, fun s => List.contains [0, 1, 2, 4, 5, 6, 7, 8] s, (.seq (.reg [⟨.loc 0, .r (.mov (.cst (.bool false))), none⟩])
 (.seq (.reg [⟨.tmp 10, .call f0 [], none⟩,
 ⟨.tmp 11, .call f1 [.tmp 10, (.cst (.int .i64 4))], none⟩,
 ⟨.tmp 9, .r (.mov (.tmp 11)), none⟩,
 ⟨.tmp 12, .r (.ext (.tmp 9) 0), none⟩,
 ⟨.tmp 13, .r (.ext (.tmp 9) 1), none⟩,
 ⟨.loc 1, .h (.mk [.nils, .nils, .nils]), none⟩,
 ⟨.none, .h (.store 3 (.loc 1) (.tmp 12)), none⟩,
 ⟨.loc 2, .r (.mov (.tmp 13)), none⟩])
 (.seq (.reg [⟨.tmp 15, .r (.load true 3 (.loc 1)), none⟩,
 ⟨.tmp 16, .h (.bsl 1 [(.cst (.int .i64 1)), (.cst (.int .i64 2))]), none⟩,
 ⟨.tmp 17, .call f2 [.tmp 15, .tmp 16], none⟩,
 ⟨.tmp 14, .r (.mov (.tmp 17)), none⟩,
 ⟨.tmp 18, .r (.ext (.tmp 14) 0), none⟩,
 ⟨.tmp 19, .r (.ext (.tmp 14) 1), none⟩,
 ⟨.tmp 3, .h (.mk [.nils, .nils, .nils]), none⟩,
 ⟨.none, .h (.store 3 (.tmp 3) (.tmp 18)), none⟩,
 ⟨.loc 4, .r (.mov (.tmp 19)), none⟩])
 (.seq (.reg [⟨.tmp 21, .r (.load true 3 (.loc 1)), none⟩,
 ⟨.tmp 22, .h (.bsl 1 [(.cst (.int .i64 4))]), none⟩,
 ⟨.tmp 23, .call f2 [.tmp 21, .tmp 22], none⟩,
 ⟨.tmp 20, .r (.mov (.tmp 23)), none⟩,
 ⟨.tmp 24, .r (.ext (.tmp 20) 0), none⟩,
 ⟨.tmp 25, .r (.ext (.tmp 20) 1), none⟩,
 ⟨.loc 5, .h (.mk [.nils, .nils, .nils]), none⟩,
 ⟨.none, .h (.store 3 (.loc 5) (.tmp 24)), none⟩,
 ⟨.loc 6, .r (.mov (.tmp 25)), none⟩])
 (.seq (.reg [⟨.tmp 27, .r (.load true 3 (.loc 5)), none⟩,
 ⟨.tmp 28, .call f2 [.tmp 27, (.cst .nils)], none⟩,
 ⟨.tmp 26, .r (.mov (.tmp 28)), none⟩,
 ⟨.tmp 29, .r (.ext (.tmp 26) 0), none⟩,
 ⟨.tmp 30, .r (.ext (.tmp 26) 1), none⟩,
 ⟨.loc 7, .h (.mk [.nils, .nils, .nils]), none⟩,
 ⟨.none, .h (.store 3 (.loc 7) (.tmp 29)), none⟩,
 ⟨.loc 8, .r (.mov (.tmp 30)), none⟩])
 (.seq (.reg [⟨.tmp 31, .r (.mov (.loc 2)), none⟩,
 ⟨.tmp 32, .r (.bin .eql (.tmp 31) (.cst (.int .i64 0))), none⟩,
 ⟨.tmp 33, .r (.mov (.tmp 32)), none⟩,
 ⟨.tmp 34, .r (.mov (.loc 4)), some (.tmp 33, true)⟩,
 ⟨.tmp 35, .r (.not (.tmp 34)), some (.tmp 33, true)⟩,
 ⟨.tmp 36, .r (.pick (.tmp 33) (.tmp 35) (.cst (.bool false))), none⟩,
 ⟨.tmp 37, .r (.mov (.tmp 36)), none⟩,
 ⟨.tmp 38, .r (.mov (.loc 6)), some (.tmp 37, true)⟩,
 ⟨.tmp 39, .r (.pick (.tmp 37) (.tmp 38) (.cst (.bool false))), none⟩,
 ⟨.tmp 40, .r (.mov (.tmp 39)), none⟩,
 ⟨.tmp 41, .r (.mov (.loc 8)), some (.tmp 40, true)⟩,
 ⟨.tmp 42, .r (.pick (.tmp 40) (.tmp 41) (.cst (.bool false))), none⟩,
 ⟨.tmp 43, .r (.mov (.tmp 42)), none⟩,
 ⟨.tmp 44, .r (.load true 3 (.loc 5)), some (.tmp 43, true)⟩,
 ⟨.tmp 45, .h (.bsl 1 [(.cst (.int .i64 1)), (.cst (.int .i64 2)), (.cst (.int .i64 3))]), some (.tmp 43, true)⟩,
 ⟨.tmp 46, .h (.bsl 1 [(.cst (.int .i64 1)), (.cst (.int .i64 2)), (.cst (.int .i64 3)), (.cst (.int .i64 4))]), some (.tmp 43, true)⟩,
 ⟨.tmp 47, .r (.build [.nils, .nils, .nils] [(0, 1, .tmp 45), (1, 1, .tmp 46)]), some (.tmp 43, true)⟩,
 ⟨.tmp 48, .call f3 [.tmp 44, .tmp 47], some (.tmp 43, true)⟩,
 ⟨.tmp 49, .r (.pick (.tmp 43) (.tmp 48) (.cst (.bool false))), none⟩,
 ⟨.tmp 50, .r (.mov (.tmp 49)), none⟩,
 ⟨.tmp 51, .r (.load true 3 (.loc 7)), some (.tmp 50, true)⟩,
 ⟨.tmp 52, .h (.bsl 1 [(.cst (.int .i64 1)), (.cst (.int .i64 2)), (.cst (.int .i64 3)), (.cst (.int .i64 4))]), some (.tmp 50, true)⟩,
 ⟨.tmp 53, .r (.build [.nils, .nils, .nils] [(0, 1, .tmp 52)]), some (.tmp 50, true)⟩,
 ⟨.tmp 54, .call f3 [.tmp 51, .tmp 53], some (.tmp 50, true)⟩,
 ⟨.tmp 55, .r (.pick (.tmp 50) (.tmp 54) (.cst (.bool false))), none⟩,
 ⟨.loc 0, .r (.mov (.tmp 55)), none⟩])
 .ret)))))), [(.tmp (.loc 0))]⟩

/-- glebe/glebelaw16.stepped -/
def c_glebelaw16_stepped (f0 f1 f2 f3 : FuncId) : AFn := ⟨43, fun s => List.contains [0, 1, 2, 3, 4, 8, 9, 10, 11, 12, 13, 15, 16, 27] s, (.seq (.reg [⟨.loc 4, .h (.box (.loc 0)), none⟩,
 ⟨.loc 8, .h (.mk [.nils, .nils, .nils]), none⟩,
 ⟨.loc 9, .r (.mov (.cst (.bool false))), none⟩])
 (.seq (.seq (.reg [⟨.tmp 14, .r (.mov (.loc 1)), none⟩,
 ⟨.loc 15, .call f0 [.tmp 14, (.cst (.int .i64 3))], none⟩])
 (.block 0 (.seq (.reg [⟨.tmp 17, .r (.bin .eql (.loc 15) (.cst (.int .i64 0))), none⟩,
 ⟨.loc 16, .r (.mov (.tmp 17)), none⟩])
 (.cond (.loc 16) (.seq (.reg [⟨.tmp 19, .r (.load true 3 (.loc 4)), none⟩,
 ⟨.tmp 20, .r (.mov (.loc 2)), none⟩,
 ⟨.tmp 21, .call f1 [.tmp 19, .tmp 20], none⟩,
 ⟨.tmp 18, .r (.mov (.tmp 21)), none⟩,
 ⟨.tmp 22, .r (.ext (.tmp 18) 0), none⟩,
 ⟨.tmp 23, .r (.ext (.tmp 18) 1), none⟩,
 ⟨.loc 10, .h (.mk [.nils, .nils, .nils]), none⟩,
 ⟨.none, .h (.store 3 (.loc 10) (.tmp 22)), none⟩,
 ⟨.loc 11, .r (.mov (.tmp 23)), none⟩])
 (.seq (.reg [⟨.tmp 24, .r (.load true 3 (.loc 10)), none⟩,
 ⟨.tmp 25, .r (.mov (.loc 11)), none⟩,
 ⟨.tmp 26, .r (.bin .eql (.tmp 25) (.cst (.int .i64 0))), none⟩,
 ⟨.none, .h (.store 3 (.loc 8) (.tmp 24)), none⟩,
 ⟨.loc 9, .r (.mov (.tmp 26)), none⟩])
 .ret))
 (.seq (.reg [⟨.tmp 28, .r (.bin .eql (.loc 15) (.cst (.int .i64 1))), none⟩,
 ⟨.loc 27, .r (.mov (.tmp 28)), none⟩])
 (.cond (.loc 27) (.seq (.reg [⟨.tmp 30, .r (.load true 3 (.loc 4)), none⟩,
 ⟨.tmp 31, .r (.mov (.loc 2)), none⟩,
 ⟨.tmp 32, .call f2 [.tmp 30, .tmp 31], none⟩,
 ⟨.tmp 29, .r (.mov (.tmp 32)), none⟩,
 ⟨.tmp 33, .r (.ext (.tmp 29) 0), none⟩,
 ⟨.tmp 34, .r (.ext (.tmp 29) 1), none⟩,
 ⟨.loc 12, .h (.mk [.nils, .nils, .nils]), none⟩,
 ⟨.none, .h (.store 3 (.loc 12) (.tmp 33)), none⟩,
 ⟨.loc 13, .r (.mov (.tmp 34)), none⟩])
 (.seq (.reg [⟨.tmp 35, .r (.load true 3 (.loc 12)), none⟩,
 ⟨.tmp 36, .r (.mov (.loc 13)), none⟩,
 ⟨.tmp 37, .r (.bin .eql (.tmp 36) (.cst (.int .i64 0))), none⟩,
 ⟨.none, .h (.store 3 (.loc 8) (.tmp 35)), none⟩,
 ⟨.loc 9, .r (.mov (.tmp 37)), none⟩])
 .ret))
 .skip))))))
 (.seq (.reg [⟨.tmp 38, .r (.load true 3 (.loc 4)), none⟩,
 ⟨.tmp 39, .r (.mov (.loc 3)), none⟩,
 ⟨.tmp 40, .call f3 [.tmp 38, .tmp 39], none⟩,
 ⟨.tmp 41, .r (.ext (.tmp 40) 0), none⟩,
 ⟨.tmp 42, .r (.ext (.tmp 40) 1), none⟩,
 ⟨.none, .h (.store 3 (.loc 8) (.tmp 41)), none⟩,
 ⟨.loc 9, .r (.mov (.tmp 42)), none⟩])
 .ret))), [(.cell (.loc 8) true 3), (.tmp (.loc 9))]⟩

def c_glebelaw16_both_l0 : AC := (.seq (.seq (.reg [⟨.tmp 14, .r (.mov (.loc 7)), none⟩,
 ⟨.tmp 15, .r (.mov (.loc 1)), none⟩,
 ⟨.tmp 16, .r (.len (.tmp 15)), none⟩,
 ⟨.loc 17, .r (.bin .lss (.tmp 14) (.tmp 16)), none⟩])
 (.cond (.loc 17) .skip
 (.exit 2)))
 (.seq (.block 3 (.seq (.dreg ⟨[0, 0, 3, 7, 0, 0, 48, 112, 255], 0, [⟨0, 0, false, .r (.mov (.loc 0)), none⟩,
 ⟨1, 0, false, .r (.mov (.loc 6)), none⟩,
 ⟨2, 0, false, .r (.idx 1 (.tmp 0) (.tmp 1)), none⟩,
 ⟨3, 0, false, .r (.load false 1 (.tmp 2)), none⟩,
 ⟨4, 0, false, .r (.mov (.loc 1)), none⟩,
 ⟨5, 0, false, .r (.mov (.loc 7)), none⟩,
 ⟨6, 0, false, .r (.idx 1 (.tmp 4) (.tmp 5)), none⟩,
 ⟨7, 0, false, .r (.load false 1 (.tmp 6)), none⟩,
 ⟨8, 0, false, .r (.bin .eql (.tmp 3) (.tmp 7)), none⟩], [(28, 8)]⟩)
 (.cond (.loc 28) (.reg [⟨.tmp 29, .r (.mov (.loc 5)), none⟩,
 ⟨.tmp 30, .r (.mov (.loc 0)), none⟩,
 ⟨.tmp 31, .r (.mov (.loc 6)), none⟩,
 ⟨.tmp 32, .r (.idx 1 (.tmp 30) (.tmp 31)), none⟩,
 ⟨.tmp 33, .r (.load false 1 (.tmp 32)), none⟩,
 ⟨.tmp 34, .h (.bsl 1 [.tmp 33]), none⟩,
 ⟨.tmp 35, .h (.app 1 8 (.tmp 29) (.tmp 34)), none⟩,
 ⟨.loc 5, .r (.mov (.tmp 35)), none⟩])
 .skip)))
 (.reg [⟨.tmp 18, .r (.mov (.loc 7)), none⟩,
 ⟨.tmp 19, .r (.bin .add (.tmp 18) (.cst (.int .i64 1))), none⟩,
 ⟨.loc 7, .r (.mov (.tmp 19)), none⟩])))
def c_glebelaw16_both_l1 : AC := (.seq (.seq (.reg [⟨.tmp 8, .r (.mov (.loc 6)), none⟩,
 ⟨.tmp 9, .r (.mov (.loc 0)), none⟩,
 ⟨.tmp 10, .r (.len (.tmp 9)), none⟩,
 ⟨.loc 11, .r (.bin .lss (.tmp 8) (.tmp 10)), none⟩])
 (.cond (.loc 11) .skip
 (.exit 0)))
 (.seq (.block 1 (.seq (.reg [⟨.loc 7, .r (.mov (.cst (.int .i64 0))), none⟩])
 (.block 2 (.loop (c_glebelaw16_both_l0)))))
 (.reg [⟨.tmp 12, .r (.mov (.loc 6)), none⟩,
 ⟨.tmp 13, .r (.bin .add (.tmp 12) (.cst (.int .i64 1))), none⟩,
 ⟨.loc 6, .r (.mov (.tmp 13)), none⟩])))
/-- glebe/glebelaw16.both -/
def c_glebelaw16_both : AFn := ⟨37, fun s => List.contains [0, 1, 4, 5, 6, 7, 11, 17, 28] s, (.seq (.reg [⟨.loc 4, .r (.mov (.cst .nils)), none⟩])
 (.seq (.reg [⟨.loc 5, .r (.mov (.cst .nils)), none⟩])
 (.seq (.seq (.reg [⟨.loc 6, .r (.mov (.cst (.int .i64 0))), none⟩])
 (.block 0 (.loop (c_glebelaw16_both_l1))))
 (.seq (.reg [⟨.tmp 36, .r (.mov (.loc 5)), none⟩,
 ⟨.loc 4, .r (.mov (.tmp 36)), none⟩])
 .ret)))), [(.tmp (.loc 4))]⟩

end Glb
