/-
  What functions of the program are, one by one (the functions that they call as parameters), in a form of which something can be shown.
-/
import Derived.Test.YtodbhmdfmdfiaaaGreatGlbLibB
set_option linter.unusedSimpArgs false
set_option linter.unusedVariables false
namespace Glb
open Go
set_option maxRecDepth 100000

/-- glebe/glebelaw13.ImageGets -/
def c_glebelaw13_ImageGets (f0 f1 f2 f3 f4 f5 f6 f7 f8 f9 f10 f11 f12 f13 f14 : FuncId) : AFn := ⟨98, fun s => List.contains [0, 2, 3, 4, 5, 6, 7, 8, 9, 10, 11, 12, 13, 14, 15, 16, 17, 20] s, (.seq (.reg [⟨.loc 2, .r (.mov (.cst (.bool false))), none⟩])
 (.seq (.seq (.reg [⟨.tmp 18, .r (.mov (.loc 0)), none⟩,
 ⟨.tmp 19, .r (.len (.tmp 18)), none⟩,
 ⟨.loc 20, .r (.bin .gtr (.tmp 19) (.cst (.int .i64 65536))), none⟩])
 (.cond (.loc 20) (.seq (.reg [⟨.tmp 21, .call f0 [], none⟩,
 ⟨.loc 2, .r (.mov (.tmp 21)), none⟩])
 .ret)
 .skip))
 (.seq (.reg [⟨.tmp 22, .r (.mov (.loc 0)), none⟩,
 ⟨.tmp 23, .call f1 [.tmp 22], none⟩,
 ⟨.loc 3, .r (.mov (.tmp 23)), none⟩])
 (.seq (.reg [⟨.tmp 24, .r (.mov (.loc 3)), none⟩,
 ⟨.tmp 25, .r (.mov (.loc 0)), none⟩,
 ⟨.tmp 26, .r (.len (.tmp 25)), none⟩,
 ⟨.tmp 27, .r (.slc 1 (.tmp 24) none (some (.tmp 26)) none), none⟩,
 ⟨.loc 4, .r (.mov (.tmp 27)), none⟩])
 (.seq (.reg [⟨.tmp 29, .r (.mov (.loc 4)), none⟩,
 ⟨.tmp 30, .call f2 [.tmp 29], none⟩,
 ⟨.tmp 28, .r (.mov (.tmp 30)), none⟩,
 ⟨.tmp 31, .r (.ext (.tmp 28) 0), none⟩,
 ⟨.tmp 32, .r (.ext (.tmp 28) 1), none⟩,
 ⟨.loc 5, .h (.mk [.nils, .nils]), none⟩,
 ⟨.none, .h (.store 2 (.loc 5) (.tmp 31)), none⟩,
 ⟨.loc 6, .r (.mov (.tmp 32)), none⟩])
 (.seq (.reg [⟨.tmp 34, .r (.mov (.loc 0)), none⟩,
 ⟨.tmp 35, .call f3 [.tmp 34], none⟩,
 ⟨.tmp 33, .r (.mov (.tmp 35)), none⟩,
 ⟨.tmp 36, .r (.ext (.tmp 33) 0), none⟩,
 ⟨.tmp 37, .r (.ext (.tmp 33) 1), none⟩,
 ⟨.loc 7, .h (.mk [.nils, .nils]), none⟩,
 ⟨.none, .h (.store 2 (.loc 7) (.tmp 36)), none⟩,
 ⟨.loc 8, .r (.mov (.tmp 37)), none⟩])
 (.seq (.reg [⟨.tmp 39, .r (.mov (.loc 4)), none⟩,
 ⟨.tmp 40, .call f4 [.tmp 39], none⟩,
 ⟨.tmp 38, .r (.mov (.tmp 40)), none⟩,
 ⟨.tmp 41, .r (.ext (.tmp 38) 0), none⟩,
 ⟨.tmp 42, .r (.ext (.tmp 38) 1), none⟩,
 ⟨.loc 9, .r (.mov (.tmp 41)), none⟩,
 ⟨.loc 10, .r (.mov (.tmp 42)), none⟩])
 (.seq (.reg [⟨.tmp 44, .r (.mov (.loc 0)), none⟩,
 ⟨.tmp 45, .call f5 [.tmp 44], none⟩,
 ⟨.tmp 43, .r (.mov (.tmp 45)), none⟩,
 ⟨.tmp 46, .r (.ext (.tmp 43) 0), none⟩,
 ⟨.tmp 47, .r (.ext (.tmp 43) 1), none⟩,
 ⟨.loc 11, .r (.mov (.tmp 46)), none⟩,
 ⟨.loc 12, .r (.mov (.tmp 47)), none⟩])
 (.seq (.reg [⟨.tmp 49, .r (.mov (.loc 4)), none⟩,
 ⟨.tmp 50, .call f6 [.tmp 49], none⟩,
 ⟨.tmp 48, .r (.mov (.tmp 50)), none⟩,
 ⟨.tmp 51, .r (.ext (.tmp 48) 0), none⟩,
 ⟨.tmp 52, .r (.ext (.tmp 48) 1), none⟩,
 ⟨.loc 13, .h (.mk [.nils, .nils, .nils]), none⟩,
 ⟨.none, .h (.store 3 (.loc 13) (.tmp 51)), none⟩,
 ⟨.loc 14, .r (.mov (.tmp 52)), none⟩])
 (.seq (.reg [⟨.tmp 54, .r (.mov (.loc 0)), none⟩,
 ⟨.tmp 55, .call f7 [.tmp 54], none⟩,
 ⟨.tmp 53, .r (.mov (.tmp 55)), none⟩,
 ⟨.tmp 56, .r (.ext (.tmp 53) 0), none⟩,
 ⟨.tmp 57, .r (.ext (.tmp 53) 1), none⟩,
 ⟨.loc 15, .h (.mk [.nils, .nils, .nils]), none⟩,
 ⟨.none, .h (.store 3 (.loc 15) (.tmp 56)), none⟩,
 ⟨.loc 16, .r (.mov (.tmp 57)), none⟩])
 (.seq (.reg [⟨.tmp 58, .r (.mov (.loc 6)), none⟩,
 ⟨.tmp 59, .r (.mov (.loc 8)), none⟩,
 ⟨.tmp 60, .r (.bin .eql (.tmp 58) (.tmp 59)), none⟩,
 ⟨.tmp 61, .r (.mov (.tmp 60)), none⟩,
 ⟨.tmp 62, .r (.mov (.loc 10)), some (.tmp 61, true)⟩,
 ⟨.tmp 63, .r (.mov (.loc 12)), some (.tmp 61, true)⟩,
 ⟨.tmp 64, .r (.bin .eql (.tmp 62) (.tmp 63)), some (.tmp 61, true)⟩,
 ⟨.tmp 65, .r (.pick (.tmp 61) (.tmp 64) (.cst (.bool false))), none⟩,
 ⟨.tmp 66, .r (.mov (.tmp 65)), none⟩,
 ⟨.tmp 67, .r (.mov (.loc 14)), some (.tmp 66, true)⟩,
 ⟨.tmp 68, .r (.mov (.loc 16)), some (.tmp 66, true)⟩,
 ⟨.tmp 69, .r (.bin .eql (.tmp 67) (.tmp 68)), some (.tmp 66, true)⟩,
 ⟨.tmp 70, .r (.pick (.tmp 66) (.tmp 69) (.cst (.bool false))), none⟩,
 ⟨.tmp 71, .r (.mov (.tmp 70)), none⟩,
 ⟨.tmp 72, .r (.load true 2 (.loc 5)), some (.tmp 71, true)⟩,
 ⟨.tmp 73, .r (.load true 2 (.loc 7)), some (.tmp 71, true)⟩,
 ⟨.tmp 74, .call f8 [.tmp 72, .tmp 73], some (.tmp 71, true)⟩,
 ⟨.tmp 75, .r (.pick (.tmp 71) (.tmp 74) (.cst (.bool false))), none⟩,
 ⟨.tmp 76, .r (.mov (.tmp 75)), none⟩,
 ⟨.tmp 77, .r (.mov (.loc 9)), some (.tmp 76, true)⟩,
 ⟨.tmp 78, .r (.mov (.loc 11)), some (.tmp 76, true)⟩,
 ⟨.tmp 79, .call f9 [.tmp 77, .tmp 78], some (.tmp 76, true)⟩,
 ⟨.tmp 80, .r (.pick (.tmp 76) (.tmp 79) (.cst (.bool false))), none⟩,
 ⟨.tmp 81, .r (.mov (.tmp 80)), none⟩,
 ⟨.tmp 82, .r (.load true 3 (.loc 13)), some (.tmp 81, true)⟩,
 ⟨.tmp 83, .r (.load true 3 (.loc 15)), some (.tmp 81, true)⟩,
 ⟨.tmp 84, .call f10 [.tmp 82, .tmp 83], some (.tmp 81, true)⟩,
 ⟨.tmp 85, .r (.pick (.tmp 81) (.tmp 84) (.cst (.bool false))), none⟩,
 ⟨.loc 17, .r (.mov (.tmp 85)), none⟩])
 (.seq (.reg [⟨.tmp 86, .r (.load true 2 (.loc 5)), none⟩,
 ⟨.tmp 87, .call f11 [.tmp 86], none⟩])
 (.seq (.reg [⟨.tmp 88, .r (.mov (.loc 9)), none⟩,
 ⟨.tmp 89, .call f12 [.tmp 88], none⟩])
 (.seq (.reg [⟨.tmp 90, .r (.load true 3 (.loc 13)), none⟩,
 ⟨.tmp 91, .call f13 [.tmp 90], none⟩])
 (.seq (.reg [⟨.tmp 92, .r (.mov (.loc 17)), none⟩,
 ⟨.tmp 93, .r (.mov (.tmp 92)), none⟩,
 ⟨.tmp 94, .r (.mov (.loc 3)), some (.tmp 93, true)⟩,
 ⟨.tmp 95, .r (.mov (.loc 0)), some (.tmp 93, true)⟩,
 ⟨.tmp 96, .call f14 [.tmp 94, .tmp 95], some (.tmp 93, true)⟩,
 ⟨.tmp 97, .r (.pick (.tmp 93) (.tmp 96) (.cst (.bool false))), none⟩,
 ⟨.loc 2, .r (.mov (.tmp 97)), none⟩])
 .ret))))))))))))))), [(.tmp (.loc 2))]⟩

/-- glebe/glebelaw13.known -/
def c_glebelaw13_known (f0 f1 f2 f3 f4 : FuncId) : AFn := ⟨60, fun s => List.contains [0, 1, 2, 3, 4] s, (.seq (.reg [⟨.loc 0, .r (.mov (.cst (.bool false))), none⟩])
 (.seq (.reg [⟨.tmp 6, .call f0 [], none⟩,
 ⟨.tmp 7, .call f1 [.tmp 6], none⟩,
 ⟨.tmp 8, .call f2 [.tmp 7], none⟩,
 ⟨.tmp 5, .r (.mov (.tmp 8)), none⟩,
 ⟨.tmp 9, .r (.ext (.tmp 5) 0), none⟩,
 ⟨.tmp 10, .r (.ext (.tmp 5) 1), none⟩,
 ⟨.loc 1, .h (.mk [.nils, .nils]), none⟩,
 ⟨.none, .h (.store 2 (.loc 1) (.tmp 9)), none⟩,
 ⟨.loc 2, .r (.mov (.tmp 10)), none⟩])
 (.seq (.reg [⟨.tmp 12, .r (.load true 2 (.loc 1)), none⟩,
 ⟨.tmp 13, .r (.build [(.int .i64 0), (.int .i64 0), (.int .i64 0), (.int .i64 0), (.int .i64 0), (.int .i64 0), (.int .i64 0), .nils, .nils, .nils, .nils, .nils, (.int .i64 0), (.int .i64 0), (.int .i64 0), (.int .i64 0), (.int .i64 0)] [(0, 1, (.cst (.int .i64 1))), (1, 1, (.cst (.int .i64 1))), (2, 1, (.cst (.int .i64 8))), (3, 1, (.cst (.int .i64 3)))]), none⟩,
 ⟨.tmp 14, .call f3 [.tmp 12, .tmp 13], none⟩,
 ⟨.tmp 11, .r (.mov (.tmp 14)), none⟩,
 ⟨.tmp 15, .r (.ext (.tmp 11) 0), none⟩,
 ⟨.tmp 16, .r (.ext (.tmp 11) 1), none⟩,
 ⟨.loc 3, .h (.mk [.nils, .nils]), none⟩,
 ⟨.none, .h (.store 2 (.loc 3) (.tmp 15)), none⟩,
 ⟨.loc 4, .r (.mov (.tmp 16)), none⟩])
 (.seq (.dreg ⟨[0, 1, 3, 7, 7, 31, 63, 127, 255, 511, 1023, 2047, 4095, 8191, 16383, 32767, 65535, 131071, 262143, 524287, 1048575, 2097151, 4194303, 8388607, 16777215, 33554431, 67108863, 134217727, 268435455, 536870911, 1073741823, 2147483647, 4294967295, 8589934591, 17179869183, 34359738367, 68719476735, 137438953471, 274877906943, 549755813887, 1099511627775, 2199023255551, 4398046511103, 8796093022207], 0, [⟨0, 0, false, .r (.mov (.loc 2)), none⟩,
 ⟨1, 0, false, .r (.bin .eql (.tmp 0) (.cst (.int .i64 0))), none⟩,
 ⟨2, 0, false, .r (.mov (.tmp 1)), none⟩,
 ⟨3, 0, false, .r (.load true 2 (.loc 1)), some (.tmp 2, true)⟩,
 ⟨4, 0, true, .call f0 [], some (.tmp 2, true)⟩,
 ⟨5, 0, true, .call f4 [.tmp 3, .tmp 4], some (.tmp 2, true)⟩,
 ⟨6, 0, false, .r (.pick (.tmp 2) (.tmp 5) (.cst (.bool false))), none⟩,
 ⟨7, 0, false, .r (.mov (.tmp 6)), none⟩,
 ⟨8, 0, false, .r (.mov (.loc 4)), some (.tmp 7, true)⟩,
 ⟨9, 0, false, .r (.bin .eql (.tmp 8) (.cst (.int .i64 0))), some (.tmp 7, true)⟩,
 ⟨10, 0, false, .r (.pick (.tmp 7) (.tmp 9) (.cst (.bool false))), none⟩,
 ⟨11, 0, false, .r (.mov (.tmp 10)), none⟩,
 ⟨12, 0, false, .r (.off 0 (.loc 3)), some (.tmp 11, true)⟩,
 ⟨13, 0, false, .r (.load false 1 (.tmp 12)), some (.tmp 11, true)⟩,
 ⟨14, 0, false, .r (.len (.tmp 13)), some (.tmp 11, true)⟩,
 ⟨15, 0, false, .r (.bin .eql (.tmp 14) (.cst (.int .i64 1))), some (.tmp 11, true)⟩,
 ⟨16, 0, false, .r (.pick (.tmp 11) (.tmp 15) (.cst (.bool false))), none⟩,
 ⟨17, 0, false, .r (.mov (.tmp 16)), none⟩,
 ⟨18, 0, false, .r (.off 0 (.loc 3)), some (.tmp 17, true)⟩,
 ⟨19, 0, false, .r (.load false 1 (.tmp 18)), some (.tmp 17, true)⟩,
 ⟨20, 0, false, .r (.idx 10 (.tmp 19) (.cst (.int .i64 0))), some (.tmp 17, true)⟩,
 ⟨21, 0, false, .r (.off 1 (.tmp 20)), some (.tmp 17, true)⟩,
 ⟨22, 0, false, .r (.load false 1 (.tmp 21)), some (.tmp 17, true)⟩,
 ⟨23, 0, false, .r (.bin .eql (.tmp 22) (.cst (.int .i64 8))), some (.tmp 17, true)⟩,
 ⟨24, 0, false, .r (.pick (.tmp 17) (.tmp 23) (.cst (.bool false))), none⟩,
 ⟨25, 0, false, .r (.mov (.tmp 24)), none⟩,
 ⟨26, 0, false, .r (.off 0 (.loc 3)), some (.tmp 25, true)⟩,
 ⟨27, 0, false, .r (.load false 1 (.tmp 26)), some (.tmp 25, true)⟩,
 ⟨28, 0, false, .r (.idx 10 (.tmp 27) (.cst (.int .i64 0))), some (.tmp 25, true)⟩,
 ⟨29, 0, false, .r (.off 2 (.tmp 28)), some (.tmp 25, true)⟩,
 ⟨30, 0, false, .r (.load false 1 (.tmp 29)), some (.tmp 25, true)⟩,
 ⟨31, 0, false, .r (.bin .eql (.tmp 30) (.cst (.int .i64 3))), some (.tmp 25, true)⟩,
 ⟨32, 0, false, .r (.pick (.tmp 25) (.tmp 31) (.cst (.bool false))), none⟩,
 ⟨33, 0, false, .r (.mov (.tmp 32)), none⟩,
 ⟨34, 0, false, .r (.off 0 (.loc 3)), some (.tmp 33, true)⟩,
 ⟨35, 0, false, .r (.load false 1 (.tmp 34)), some (.tmp 33, true)⟩,
 ⟨36, 0, false, .r (.idx 10 (.tmp 35) (.cst (.int .i64 0))), some (.tmp 33, true)⟩,
 ⟨37, 0, false, .r (.off 3 (.tmp 36)), some (.tmp 33, true)⟩,
 ⟨38, 0, false, .r (.off 2 (.tmp 37)), some (.tmp 33, true)⟩,
 ⟨39, 0, false, .r (.load false 1 (.tmp 38)), some (.tmp 33, true)⟩,
 ⟨40, 0, false, .r (.len (.tmp 39)), some (.tmp 33, true)⟩,
 ⟨41, 0, false, .r (.bin .eql (.tmp 40) (.cst (.int .i64 3))), some (.tmp 33, true)⟩,
 ⟨42, 0, false, .r (.pick (.tmp 33) (.tmp 41) (.cst (.bool false))), none⟩,
 ⟨43, 0, false, .r (.mov (.tmp 42)), none⟩], [(0, 43)]⟩)
 .ret)))), [(.tmp (.loc 0))]⟩

/-- glebe/glebelaw13.first -/
def c_glebelaw13_first : AFn := ⟨16, fun s => List.contains [0, 1] s, (.seq (.reg [⟨.loc 0, .h (.mk [.nils, .nils]), none⟩])
 (.seq (.reg [⟨.tmp 2, .h (.bsl 1 [(.cst (.int .u8 1))]), none⟩,
 ⟨.tmp 3, .r (.build [(.int .i64 0), (.int .i64 0), .nils] [(0, 1, (.cst (.int .i64 2))), (2, 1, .tmp 2)]), none⟩,
 ⟨.tmp 4, .r (.build [(.int .i64 0), (.int .i64 0), .nils] [(0, 1, (.cst (.int .i64 3)))]), none⟩,
 ⟨.tmp 5, .h (.bsl 1 [(.cst (.int .u8 2)), (.cst (.int .u8 3))]), none⟩,
 ⟨.tmp 6, .r (.build [(.int .i64 0), (.int .i64 0), .nils] [(0, 1, (.cst (.int .i64 3))), (2, 1, .tmp 5)]), none⟩,
 ⟨.tmp 7, .h (.bsl 3 [.tmp 3, .tmp 4, .tmp 6]), none⟩,
 ⟨.tmp 8, .r (.build [(.int .i64 0), (.int .i64 0), .nils] [(0, 1, (.cst (.int .i64 4))), (1, 1, (.cst (.int .i64 2))), (2, 1, .tmp 7)]), none⟩,
 ⟨.loc 1, .h (.mk [(.int .i64 0), (.int .i64 0), .nils]), none⟩,
 ⟨.none, .h (.store 3 (.loc 1) (.tmp 8)), none⟩])
 (.seq (.reg [⟨.tmp 9, .r (.load true 3 (.loc 1)), none⟩,
 ⟨.tmp 10, .h (.bsl 1 [(.cst (.int .i64 1)), (.cst (.int .i64 2)), (.cst (.int .i64 3))]), none⟩,
 ⟨.tmp 11, .r (.build [.nils, .nils, .nils] [(0, 1, .tmp 10)]), none⟩,
 ⟨.tmp 12, .h (.bsl 1 [(.cst (.int .u8 9))]), none⟩,
 ⟨.tmp 13, .r (.build [(.int .i64 0), (.int .i64 0), (.int .i64 0), (.int .i64 0), (.int .i64 0), .nils, .nils, .nils, .nils, .nils] [(0, 1, (.cst (.int .i64 1))), (1, 1, (.cst (.int .i64 3))), (2, 1, (.cst (.int .i64 2))), (3, 3, .tmp 9), (6, 3, .tmp 11), (9, 1, .tmp 12)]), none⟩,
 ⟨.tmp 14, .h (.bsl 10 [.tmp 13]), none⟩,
 ⟨.tmp 15, .r (.build [.nils, .nils] [(0, 1, .tmp 14)]), none⟩,
 ⟨.none, .h (.store 2 (.loc 0) (.tmp 15)), none⟩])
 .ret))), [(.cell (.loc 0) true 2)]⟩

end Glb
