/-
  What functions of the program are, one by one (the functions that they call as parameters), in a form of which something can be shown.
-/
import Derived.Test.YtdlklnoffbfjmaaGlbLibB
set_option linter.unusedSimpArgs false
set_option linter.unusedVariables false
namespace Glb
open Go
set_option maxRecDepth 100000

def c_glebelaw07_JournalSizes_l0 (f0 f1 f2 f3 f4 f5 f6 f7 f8 : FuncId) : AC := (.seq (.seq (.reg [⟨.tmp 37, .r (.mov (.loc 10)), none⟩,
 ⟨.tmp 38, .r (.mov (.loc 0)), none⟩,
 ⟨.tmp 39, .r (.len (.tmp 38)), none⟩,
 ⟨.tmp 40, .r (.bin .lss (.tmp 37) (.tmp 39)), none⟩,
 ⟨.tmp 41, .r (.mov (.tmp 40)), none⟩,
 ⟨.tmp 42, .r (.mov (.loc 10)), some (.tmp 41, true)⟩,
 ⟨.tmp 43, .r (.bin .lss (.tmp 42) (.cst (.int .i64 30))), some (.tmp 41, true)⟩,
 ⟨.loc 44, .r (.pick (.tmp 41) (.tmp 43) (.cst (.bool false))), none⟩])
 (.cond (.loc 44) .skip
 (.exit 0)))
 (.seq (.block 1 (.seq (.seq (.reg [⟨.tmp 47, .r (.mov (.loc 0)), none⟩,
 ⟨.tmp 48, .r (.mov (.loc 10)), none⟩,
 ⟨.tmp 49, .r (.idx 1 (.tmp 47) (.tmp 48)), none⟩,
 ⟨.tmp 50, .r (.load false 1 (.tmp 49)), none⟩,
 ⟨.tmp 51, .r (.len (.tmp 50)), none⟩,
 ⟨.loc 52, .r (.bin .gtr (.tmp 51) (.cst (.int .i64 2000))), none⟩])
 (.cond (.loc 52) (.seq (.reg [⟨.tmp 53, .call f3 [], none⟩,
 ⟨.loc 4, .r (.mov (.tmp 53)), none⟩])
 .ret)
 .skip))
 (.seq (.reg [⟨.tmp 54, .r (.mov (.loc 0)), none⟩,
 ⟨.tmp 55, .r (.mov (.loc 10)), none⟩,
 ⟨.tmp 56, .r (.idx 1 (.tmp 54) (.tmp 55)), none⟩,
 ⟨.tmp 57, .r (.load false 1 (.tmp 56)), none⟩,
 ⟨.tmp 58, .r (.len (.tmp 57)), none⟩,
 ⟨.tmp 59, .r (.bin .add (.tmp 58) (.cst (.int .i64 39))), none⟩,
 ⟨.tmp 60, .r (.bin .quo (.tmp 59) (.cst (.int .i64 40))), none⟩,
 ⟨.tmp 61, .r (.mnmx true [(.cst (.int .i64 1)), .tmp 60]), none⟩,
 ⟨.loc 11, .r (.mov (.tmp 61)), none⟩])
 (.seq (.reg [⟨.tmp 62, .r (.mov (.loc 7)), none⟩,
 ⟨.tmp 63, .call f4 [.tmp 62], none⟩,
 ⟨.loc 12, .r (.mov (.tmp 63)), none⟩])
 (.seq (.reg [⟨.tmp 64, .r (.mov (.loc 7)), none⟩,
 ⟨.tmp 65, .r (.mov (.loc 0)), none⟩,
 ⟨.tmp 66, .r (.mov (.loc 10)), none⟩,
 ⟨.tmp 67, .r (.idx 1 (.tmp 65) (.tmp 66)), none⟩,
 ⟨.tmp 68, .r (.load false 1 (.tmp 67)), none⟩,
 ⟨.tmp 69, .call f5 [.tmp 64, .tmp 68], none⟩,
 ⟨.loc 13, .r (.mov (.tmp 69)), none⟩])
 (.seq (.seq (.reg [⟨.tmp 70, .r (.mov (.loc 13)), none⟩,
 ⟨.tmp 71, .r (.bin .eql (.tmp 70) (.cst (.int .i64 0))), none⟩,
 ⟨.tmp 72, .r (.mov (.loc 11)), none⟩,
 ⟨.tmp 73, .r (.mov (.loc 12)), none⟩,
 ⟨.tmp 74, .r (.bin .leq (.tmp 72) (.tmp 73)), none⟩,
 ⟨.tmp 75, .r (.beq .neq (.tmp 71) (.tmp 74)), none⟩,
 ⟨.tmp 76, .r (.mov (.tmp 75)), none⟩,
 ⟨.tmp 77, .r (.mov (.loc 13)), some (.tmp 76, false)⟩,
 ⟨.tmp 78, .r (.bin .neq (.tmp 77) (.cst (.int .i64 0))), some (.tmp 76, false)⟩,
 ⟨.tmp 79, .r (.mov (.tmp 78)), some (.tmp 76, false)⟩,
 ⟨.tmp 80, .r (.mov (.loc 13)), some (.tmp 79, true)⟩,
 ⟨.tmp 81, .r (.bin .neq (.tmp 80) (.cst (.int .i64 8))), some (.tmp 79, true)⟩,
 ⟨.tmp 82, .r (.pick (.tmp 79) (.tmp 81) (.cst (.bool false))), some (.tmp 76, false)⟩,
 ⟨.loc 83, .r (.pick (.tmp 76) (.cst (.bool true)) (.tmp 82)), none⟩])
 (.cond (.loc 83) (.seq (.reg [⟨.loc 4, .r (.mov (.cst (.bool false))), none⟩])
 .ret)
 .skip))
 (.seq (.seq (.reg [⟨.tmp 84, .r (.mov (.loc 13)), none⟩,
 ⟨.loc 85, .r (.bin .eql (.tmp 84) (.cst (.int .i64 0))), none⟩])
 (.cond (.loc 85) (.seq (.reg [⟨.tmp 86, .r (.mov (.loc 9)), none⟩,
 ⟨.tmp 87, .r (.mov (.loc 0)), none⟩,
 ⟨.tmp 88, .r (.mov (.loc 10)), none⟩,
 ⟨.tmp 89, .r (.idx 1 (.tmp 87) (.tmp 88)), none⟩,
 ⟨.tmp 90, .r (.load false 1 (.tmp 89)), none⟩,
 ⟨.tmp 91, .h (.bsl 1 [.tmp 90]), none⟩,
 ⟨.tmp 92, .h (.app 1 24 (.tmp 86) (.tmp 91)), none⟩,
 ⟨.loc 9, .r (.mov (.tmp 92)), none⟩])
 (.reg [⟨.tmp 93, .r (.mov (.loc 12)), none⟩,
 ⟨.tmp 94, .r (.mov (.loc 11)), none⟩,
 ⟨.tmp 95, .r (.bin .sub (.tmp 93) (.tmp 94)), none⟩,
 ⟨.loc 12, .r (.mov (.tmp 95)), none⟩]))
 .skip))
 (.seq (.reg [⟨.tmp 96, .r (.mov (.loc 7)), none⟩,
 ⟨.tmp 97, .call f4 [.tmp 96], none⟩,
 ⟨.tmp 98, .r (.mov (.loc 12)), none⟩,
 ⟨.loc 99, .r (.bin .neq (.tmp 97) (.tmp 98)), none⟩])
 (.cond (.loc 99) (.seq (.reg [⟨.loc 4, .r (.mov (.cst (.bool false))), none⟩])
 .ret)
 .skip)))))))))
 (.reg [⟨.tmp 45, .r (.mov (.loc 10)), none⟩,
 ⟨.tmp 46, .r (.bin .add (.tmp 45) (.cst (.int .i64 1))), none⟩,
 ⟨.loc 10, .r (.mov (.tmp 46)), none⟩])))
/-- glebe/glebelaw07.JournalSizes -/
def c_glebelaw07_JournalSizes (f0 f1 f2 f3 f4 f5 f6 f7 f8 : FuncId) : AFn := ⟨123, fun s => List.contains [0, 1, 4, 5, 6, 7, 8, 9, 10, 11, 12, 13, 14, 15, 24, 36, 44, 52, 83, 85, 99] s, (.seq (.reg [⟨.loc 4, .r (.mov (.cst (.bool false))), none⟩])
 (.seq (.reg [⟨.tmp 16, .r (.mov (.loc 1)), none⟩,
 ⟨.tmp 17, .call f0 [.tmp 16, (.cst (.int .i64 1099511627776))], none⟩,
 ⟨.tmp 18, .r (.bin .add (.cst (.int .i64 1)) (.tmp 17)), none⟩,
 ⟨.loc 1, .r (.mov (.tmp 18)), none⟩])
 (.seq (.reg [⟨.tmp 20, .call f1 [(.cst (.int .i64 120))], none⟩,
 ⟨.tmp 19, .r (.mov (.tmp 20)), none⟩,
 ⟨.tmp 21, .r (.ext (.tmp 19) 0), none⟩,
 ⟨.tmp 22, .r (.ext (.tmp 19) 1), none⟩,
 ⟨.loc 5, .r (.mov (.tmp 21)), none⟩,
 ⟨.loc 6, .r (.mov (.tmp 22)), none⟩])
 (.seq (.seq (.reg [⟨.tmp 23, .r (.mov (.loc 6)), none⟩,
 ⟨.loc 24, .r (.bin .neq (.tmp 23) (.cst (.int .i64 0))), none⟩])
 (.cond (.loc 24) (.seq (.reg [⟨.loc 4, .r (.mov (.cst (.bool false))), none⟩])
 .ret)
 .skip))
 (.seq (.reg [⟨.tmp 26, .r (.mov (.loc 5)), none⟩,
 ⟨.tmp 27, .r (.mov (.loc 1)), none⟩,
 ⟨.tmp 28, .call f2 [.tmp 26, (.cst (.int .i64 0)), (.cst (.int .i64 120)), .tmp 27], none⟩,
 ⟨.tmp 25, .r (.mov (.tmp 28)), none⟩,
 ⟨.tmp 29, .r (.ext (.tmp 25) 0), none⟩,
 ⟨.tmp 30, .r (.ext (.tmp 25) 1), none⟩,
 ⟨.loc 7, .r (.mov (.tmp 29)), none⟩,
 ⟨.loc 8, .r (.mov (.tmp 30)), none⟩])
 (.seq (.seq (.reg [⟨.tmp 31, .r (.mov (.loc 8)), none⟩,
 ⟨.tmp 32, .r (.bin .neq (.tmp 31) (.cst (.int .i64 0))), none⟩,
 ⟨.tmp 33, .r (.mov (.tmp 32)), none⟩,
 ⟨.tmp 34, .r (.mov (.loc 7)), some (.tmp 33, false)⟩,
 ⟨.tmp 35, .r (.x (.peq false (.tmp 34))), some (.tmp 33, false)⟩,
 ⟨.loc 36, .r (.pick (.tmp 33) (.cst (.bool true)) (.tmp 35)), none⟩])
 (.cond (.loc 36) (.seq (.reg [⟨.loc 4, .r (.mov (.cst (.bool false))), none⟩])
 .ret)
 .skip))
 (.seq (.reg [⟨.loc 9, .r (.mov (.cst .nils)), none⟩])
 (.seq (.seq (.reg [⟨.loc 10, .r (.mov (.cst (.int .i64 0))), none⟩])
 (.block 0 (.loop (c_glebelaw07_JournalSizes_l0 f0 f1 f2 f3 f4 f5 f6 f7 f8))))
 (.seq (.reg [⟨.tmp 101, .r (.mov (.loc 5)), none⟩,
 ⟨.tmp 102, .r (.mov (.loc 1)), none⟩,
 ⟨.tmp 103, .call f6 [.tmp 101, (.cst (.int .i64 0)), (.cst (.int .i64 120)), .tmp 102], none⟩,
 ⟨.tmp 100, .r (.mov (.tmp 103)), none⟩,
 ⟨.tmp 104, .r (.ext (.tmp 100) 0), none⟩,
 ⟨.tmp 105, .r (.ext (.tmp 100) 1), none⟩,
 ⟨.loc 14, .r (.mov (.tmp 104)), none⟩,
 ⟨.loc 15, .r (.mov (.tmp 105)), none⟩])
 (.seq (.reg [⟨.tmp 106, .r (.mov (.loc 15)), none⟩,
 ⟨.tmp 107, .r (.bin .eql (.tmp 106) (.cst (.int .i64 0))), none⟩,
 ⟨.tmp 108, .r (.mov (.tmp 107)), none⟩,
 ⟨.tmp 109, .r (.mov (.loc 14)), some (.tmp 108, true)⟩,
 ⟨.tmp 110, .r (.mov (.loc 9)), some (.tmp 108, true)⟩,
 ⟨.tmp 111, .call f7 [.tmp 109, .tmp 110], some (.tmp 108, true)⟩,
 ⟨.tmp 112, .r (.pick (.tmp 108) (.tmp 111) (.cst (.bool false))), none⟩,
 ⟨.tmp 113, .r (.mov (.tmp 112)), none⟩,
 ⟨.tmp 114, .r (.mov (.loc 7)), some (.tmp 113, true)⟩,
 ⟨.tmp 115, .call f8 [.tmp 114], some (.tmp 113, true)⟩,
 ⟨.tmp 116, .r (.mov (.loc 9)), some (.tmp 113, true)⟩,
 ⟨.tmp 117, .r (.len (.tmp 116)), some (.tmp 113, true)⟩,
 ⟨.tmp 118, .r (.bin .eql (.tmp 115) (.tmp 117)), some (.tmp 113, true)⟩,
 ⟨.tmp 119, .r (.pick (.tmp 113) (.tmp 118) (.cst (.bool false))), none⟩,
 ⟨.tmp 120, .r (.mov (.tmp 119)), none⟩,
 ⟨.tmp 121, .call f3 [], some (.tmp 120, true)⟩,
 ⟨.tmp 122, .r (.pick (.tmp 120) (.tmp 121) (.cst (.bool false))), none⟩,
 ⟨.loc 4, .r (.mov (.tmp 122)), none⟩])
 .ret)))))))))), [(.tmp (.loc 4))]⟩

/-- glebe/glebelaw07.known -/
def c_glebelaw07_known (f0 f1 f2 f3 f4 f5 f6 : FuncId) : AFn := ⟨74, fun s => List.contains [0, 1, 2, 3, 4, 5, 6, 7, 8, 14, 46] s, (.seq (.reg [⟨.loc 0, .r (.mov (.cst (.bool false))), none⟩])
 (.seq (.reg [⟨.tmp 10, .call f0 [(.cst (.int .i64 8))], none⟩,
 ⟨.tmp 9, .r (.mov (.tmp 10)), none⟩,
 ⟨.tmp 11, .r (.ext (.tmp 9) 0), none⟩,
 ⟨.tmp 12, .r (.ext (.tmp 9) 1), none⟩,
 ⟨.loc 1, .r (.mov (.tmp 11)), none⟩,
 ⟨.loc 2, .r (.mov (.tmp 12)), none⟩])
 (.seq (.seq (.reg [⟨.tmp 13, .r (.mov (.loc 2)), none⟩,
 ⟨.loc 14, .r (.bin .neq (.tmp 13) (.cst (.int .i64 0))), none⟩])
 (.cond (.loc 14) (.seq (.reg [⟨.loc 0, .r (.mov (.cst (.bool false))), none⟩])
 .ret)
 .skip))
 (.seq (.reg [⟨.tmp 16, .r (.mov (.loc 1)), none⟩,
 ⟨.tmp 17, .call f1 [.tmp 16, (.cst (.int .i64 2)), (.cst (.int .i64 5)), (.cst (.int .i64 7))], none⟩,
 ⟨.tmp 15, .r (.mov (.tmp 17)), none⟩,
 ⟨.tmp 18, .r (.ext (.tmp 15) 0), none⟩,
 ⟨.tmp 19, .r (.ext (.tmp 15) 1), none⟩,
 ⟨.loc 3, .r (.mov (.tmp 18)), none⟩,
 ⟨.loc 4, .r (.mov (.tmp 19)), none⟩])
 (.seq (.seq (.reg [⟨.tmp 20, .r (.mov (.loc 4)), none⟩,
 ⟨.tmp 21, .r (.bin .neq (.tmp 20) (.cst (.int .i64 0))), none⟩,
 ⟨.tmp 22, .r (.mov (.tmp 21)), none⟩,
 ⟨.tmp 23, .r (.mov (.loc 3)), some (.tmp 22, false)⟩,
 ⟨.tmp 24, .r (.x (.peq false (.tmp 23))), some (.tmp 22, false)⟩,
 ⟨.tmp 25, .r (.pick (.tmp 22) (.cst (.bool true)) (.tmp 24)), none⟩,
 ⟨.tmp 26, .r (.mov (.tmp 25)), none⟩,
 ⟨.tmp 27, .r (.mov (.loc 3)), some (.tmp 26, false)⟩,
 ⟨.tmp 28, .h (.bsl 1 [(.cst (.int .u8 1)), (.cst (.int .u8 2))]), some (.tmp 26, false)⟩,
 ⟨.tmp 29, .call f2 [.tmp 27, .tmp 28], some (.tmp 26, false)⟩,
 ⟨.tmp 30, .r (.bin .neq (.tmp 29) (.cst (.int .i64 0))), some (.tmp 26, false)⟩,
 ⟨.tmp 31, .r (.pick (.tmp 26) (.cst (.bool true)) (.tmp 30)), none⟩,
 ⟨.tmp 32, .r (.mov (.tmp 31)), none⟩,
 ⟨.tmp 33, .r (.mov (.loc 3)), some (.tmp 32, false)⟩,
 ⟨.tmp 34, .call f2 [.tmp 33, (.cst .nils)], some (.tmp 32, false)⟩,
 ⟨.tmp 35, .r (.bin .neq (.tmp 34) (.cst (.int .i64 0))), some (.tmp 32, false)⟩,
 ⟨.tmp 36, .r (.pick (.tmp 32) (.cst (.bool true)) (.tmp 35)), none⟩,
 ⟨.tmp 37, .r (.mov (.tmp 36)), none⟩,
 ⟨.tmp 38, .r (.mov (.loc 3)), some (.tmp 37, false)⟩,
 ⟨.tmp 39, .call f3 [.tmp 38], some (.tmp 37, false)⟩,
 ⟨.tmp 40, .r (.bin .neq (.tmp 39) (.cst (.int .i64 3))), some (.tmp 37, false)⟩,
 ⟨.tmp 41, .r (.pick (.tmp 37) (.cst (.bool true)) (.tmp 40)), none⟩,
 ⟨.tmp 42, .r (.mov (.tmp 41)), none⟩,
 ⟨.tmp 43, .r (.mov (.loc 3)), some (.tmp 42, false)⟩,
 ⟨.tmp 44, .call f4 [.tmp 43], some (.tmp 42, false)⟩,
 ⟨.tmp 45, .r (.bin .neq (.tmp 44) (.cst (.int .i64 2))), some (.tmp 42, false)⟩,
 ⟨.loc 46, .r (.pick (.tmp 42) (.cst (.bool true)) (.tmp 45)), none⟩])
 (.cond (.loc 46) (.seq (.reg [⟨.loc 0, .r (.mov (.cst (.bool false))), none⟩])
 .ret)
 .skip))
 (.seq (.reg [⟨.tmp 48, .r (.mov (.loc 1)), none⟩,
 ⟨.tmp 49, .call f5 [.tmp 48, (.cst (.int .i64 2)), (.cst (.int .i64 5)), (.cst (.int .i64 7))], none⟩,
 ⟨.tmp 47, .r (.mov (.tmp 49)), none⟩,
 ⟨.tmp 50, .r (.ext (.tmp 47) 0), none⟩,
 ⟨.tmp 51, .r (.ext (.tmp 47) 1), none⟩,
 ⟨.loc 5, .r (.mov (.tmp 50)), none⟩,
 ⟨.loc 6, .r (.mov (.tmp 51)), none⟩])
 (.seq (.reg [⟨.tmp 53, .r (.mov (.loc 1)), none⟩,
 ⟨.tmp 54, .call f5 [.tmp 53, (.cst (.int .i64 2)), (.cst (.int .i64 5)), (.cst (.int .i64 8))], none⟩,
 ⟨.tmp 52, .r (.mov (.tmp 54)), none⟩,
 ⟨.tmp 55, .r (.ext (.tmp 52) 0), none⟩,
 ⟨.tmp 56, .r (.ext (.tmp 52) 1), none⟩,
 ⟨.loc 7, .r (.mov (.tmp 55)), none⟩,
 ⟨.loc 8, .r (.mov (.tmp 56)), none⟩])
 (.seq (.reg [⟨.tmp 57, .r (.mov (.loc 6)), none⟩,
 ⟨.tmp 58, .r (.bin .eql (.tmp 57) (.cst (.int .i64 0))), none⟩,
 ⟨.tmp 59, .r (.mov (.tmp 58)), none⟩,
 ⟨.tmp 60, .r (.mov (.loc 5)), some (.tmp 59, true)⟩,
 ⟨.tmp 61, .h (.bsl 1 [(.cst (.int .u8 1)), (.cst (.int .u8 2))]), some (.tmp 59, true)⟩,
 ⟨.tmp 62, .h (.bsl 1 [.tmp 61, (.cst .nils)]), some (.tmp 59, true)⟩,
 ⟨.tmp 63, .call f6 [.tmp 60, .tmp 62], some (.tmp 59, true)⟩,
 ⟨.tmp 64, .r (.pick (.tmp 59) (.tmp 63) (.cst (.bool false))), none⟩,
 ⟨.tmp 65, .r (.mov (.tmp 64)), none⟩,
 ⟨.tmp 66, .r (.mov (.loc 8)), some (.tmp 65, true)⟩,
 ⟨.tmp 67, .r (.bin .eql (.tmp 66) (.cst (.int .i64 0))), some (.tmp 65, true)⟩,
 ⟨.tmp 68, .r (.pick (.tmp 65) (.tmp 67) (.cst (.bool false))), none⟩,
 ⟨.tmp 69, .r (.mov (.tmp 68)), none⟩,
 ⟨.tmp 70, .r (.mov (.loc 7)), some (.tmp 69, true)⟩,
 ⟨.tmp 71, .r (.len (.tmp 70)), some (.tmp 69, true)⟩,
 ⟨.tmp 72, .r (.bin .eql (.tmp 71) (.cst (.int .i64 0))), some (.tmp 69, true)⟩,
 ⟨.tmp 73, .r (.pick (.tmp 69) (.tmp 72) (.cst (.bool false))), none⟩,
 ⟨.loc 0, .r (.mov (.tmp 73)), none⟩])
 .ret)))))))), [(.tmp (.loc 0))]⟩

end Glb
