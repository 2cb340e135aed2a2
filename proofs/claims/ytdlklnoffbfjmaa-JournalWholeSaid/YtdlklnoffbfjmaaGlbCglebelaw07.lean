/-
  What functions of the program are, one by one (the functions that they call as parameters), in a form of which something can be shown.
-/
import Derived.Test.YtdlklnoffbfjmaaGlbLibB
set_option linter.unusedSimpArgs false
set_option linter.unusedVariables false
namespace Glb
open Go
set_option maxRecDepth 100000

def c_glebelaw07_JournalWhole_l0 (f0 f1 f2 f3 f4 f5 : FuncId) : AC := (.seq (.seq (.reg [⟨.tmp 19, .r (.mov (.loc 5)), none⟩,
 ⟨.tmp 20, .r (.mov (.loc 0)), none⟩,
 ⟨.tmp 21, .r (.len (.tmp 20)), none⟩,
 ⟨.tmp 22, .r (.bin .lss (.tmp 19) (.tmp 21)), none⟩,
 ⟨.tmp 23, .r (.mov (.tmp 22)), none⟩,
 ⟨.tmp 24, .r (.mov (.loc 5)), some (.tmp 23, true)⟩,
 ⟨.tmp 25, .r (.bin .lss (.tmp 24) (.cst (.int .i64 10))), some (.tmp 23, true)⟩,
 ⟨.loc 26, .r (.pick (.tmp 23) (.tmp 25) (.cst (.bool false))), none⟩])
 (.cond (.loc 26) .skip
 (.exit 0)))
 (.seq (.block 1 (.seq (.seq (.reg [⟨.tmp 29, .r (.mov (.loc 0)), none⟩,
 ⟨.tmp 30, .r (.mov (.loc 5)), none⟩,
 ⟨.tmp 31, .r (.idx 3 (.tmp 29) (.tmp 30)), none⟩,
 ⟨.tmp 32, .r (.off 2 (.tmp 31)), none⟩,
 ⟨.tmp 33, .r (.load false 1 (.tmp 32)), none⟩,
 ⟨.tmp 34, .r (.len (.tmp 33)), none⟩,
 ⟨.loc 35, .r (.bin .gtr (.tmp 34) (.cst (.int .i64 100))), none⟩])
 (.cond (.loc 35) (.seq (.reg [⟨.tmp 36, .call f1 [], none⟩,
 ⟨.loc 2, .r (.mov (.tmp 36)), none⟩])
 .ret)
 .skip))
 (.seq (.reg [⟨.tmp 38, .r (.mov (.loc 3)), none⟩,
 ⟨.tmp 39, .r (.mov (.loc 5)), none⟩,
 ⟨.tmp 40, .r (.bin .add (.tmp 39) (.cst (.int .i64 3))), none⟩,
 ⟨.tmp 41, .r (.mov (.loc 0)), none⟩,
 ⟨.tmp 42, .r (.mov (.loc 5)), none⟩,
 ⟨.tmp 43, .r (.idx 3 (.tmp 41) (.tmp 42)), none⟩,
 ⟨.tmp 44, .r (.load true 3 (.tmp 43)), none⟩,
 ⟨.tmp 45, .call f2 [.tmp 38, .tmp 40, .tmp 44], none⟩,
 ⟨.tmp 37, .r (.mov (.tmp 45)), none⟩,
 ⟨.tmp 46, .r (.ext (.tmp 37) 0), none⟩,
 ⟨.tmp 47, .r (.ext (.tmp 37) 1), none⟩,
 ⟨.tmp 48, .r (.ext (.tmp 37) 2), none⟩,
 ⟨.loc 6, .r (.mov (.tmp 46)), none⟩,
 ⟨.loc 7, .r (.mov (.tmp 47)), none⟩,
 ⟨.loc 8, .r (.mov (.tmp 48)), none⟩])
 (.seq (.seq (.reg [⟨.tmp 49, .r (.mov (.loc 8)), none⟩,
 ⟨.loc 50, .r (.not (.tmp 49)), none⟩])
 (.cond (.loc 50) (.seq (.reg [⟨.loc 2, .r (.mov (.cst (.bool false))), none⟩])
 .ret)
 .skip))
 (.seq (.reg [⟨.tmp 51, .r (.mov (.loc 3)), none⟩,
 ⟨.tmp 52, .r (.mov (.loc 0)), none⟩,
 ⟨.tmp 53, .r (.mov (.loc 5)), none⟩,
 ⟨.tmp 54, .r (.idx 3 (.tmp 52) (.tmp 53)), none⟩,
 ⟨.tmp 55, .r (.off 2 (.tmp 54)), none⟩,
 ⟨.tmp 56, .r (.load false 1 (.tmp 55)), none⟩,
 ⟨.tmp 57, .call f3 [.tmp 51, .tmp 56], none⟩])
 (.seq (.reg [⟨.tmp 59, .r (.mov (.loc 3)), none⟩,
 ⟨.tmp 60, .r (.mov (.loc 5)), none⟩,
 ⟨.tmp 61, .r (.bin .add (.tmp 60) (.cst (.int .i64 3))), none⟩,
 ⟨.tmp 62, .call f4 [.tmp 59, (.cst (.int .i64 1)), (.cst (.int .i64 40)), .tmp 61], none⟩,
 ⟨.tmp 58, .r (.mov (.tmp 62)), none⟩,
 ⟨.tmp 63, .r (.ext (.tmp 58) 0), none⟩,
 ⟨.tmp 64, .r (.ext (.tmp 58) 1), none⟩,
 ⟨.loc 9, .r (.mov (.tmp 63)), none⟩,
 ⟨.loc 10, .r (.mov (.tmp 64)), none⟩])
 (.seq (.reg [⟨.tmp 66, .r (.mov (.loc 3)), none⟩,
 ⟨.tmp 67, .r (.mov (.loc 5)), none⟩,
 ⟨.tmp 68, .r (.bin .add (.tmp 67) (.cst (.int .i64 4))), none⟩,
 ⟨.tmp 69, .call f4 [.tmp 66, (.cst (.int .i64 1)), (.cst (.int .i64 40)), .tmp 68], none⟩,
 ⟨.tmp 65, .r (.mov (.tmp 69)), none⟩,
 ⟨.tmp 70, .r (.ext (.tmp 65) 0), none⟩,
 ⟨.tmp 71, .r (.ext (.tmp 65) 1), none⟩,
 ⟨.loc 11, .r (.mov (.tmp 70)), none⟩,
 ⟨.loc 12, .r (.mov (.tmp 71)), none⟩])
 (.seq (.reg [⟨.tmp 72, .r (.mov (.loc 10)), none⟩,
 ⟨.tmp 73, .r (.bin .neq (.tmp 72) (.cst (.int .i64 0))), none⟩,
 ⟨.tmp 74, .r (.mov (.tmp 73)), none⟩,
 ⟨.tmp 75, .r (.mov (.loc 12)), some (.tmp 74, false)⟩,
 ⟨.tmp 76, .r (.bin .neq (.tmp 75) (.cst (.int .i64 0))), some (.tmp 74, false)⟩,
 ⟨.tmp 77, .r (.pick (.tmp 74) (.cst (.bool true)) (.tmp 76)), none⟩,
 ⟨.tmp 78, .r (.mov (.tmp 77)), none⟩,
 ⟨.tmp 79, .r (.mov (.loc 9)), some (.tmp 78, false)⟩,
 ⟨.tmp 80, .r (.mov (.loc 6)), some (.tmp 78, false)⟩,
 ⟨.tmp 81, .call f5 [.tmp 79, .tmp 80], some (.tmp 78, false)⟩,
 ⟨.tmp 82, .r (.not (.tmp 81)), some (.tmp 78, false)⟩,
 ⟨.tmp 83, .r (.mov (.tmp 82)), some (.tmp 78, false)⟩,
 ⟨.tmp 84, .r (.mov (.loc 9)), some (.tmp 83, true)⟩,
 ⟨.tmp 85, .r (.mov (.loc 7)), some (.tmp 83, true)⟩,
 ⟨.tmp 86, .call f5 [.tmp 84, .tmp 85], some (.tmp 83, true)⟩,
 ⟨.tmp 87, .r (.not (.tmp 86)), some (.tmp 83, true)⟩,
 ⟨.tmp 88, .r (.pick (.tmp 83) (.tmp 87) (.cst (.bool false))), some (.tmp 78, false)⟩,
 ⟨.tmp 89, .r (.pick (.tmp 78) (.cst (.bool true)) (.tmp 88)), none⟩,
 ⟨.tmp 90, .r (.mov (.tmp 89)), none⟩,
 ⟨.tmp 91, .r (.mov (.loc 11)), some (.tmp 90, false)⟩,
 ⟨.tmp 92, .r (.len (.tmp 91)), some (.tmp 90, false)⟩,
 ⟨.tmp 93, .r (.bin .gtr (.tmp 92) (.cst (.int .i64 0))), some (.tmp 90, false)⟩,
 ⟨.loc 94, .r (.pick (.tmp 90) (.cst (.bool true)) (.tmp 93)), none⟩])
 (.cond (.loc 94) (.seq (.reg [⟨.loc 2, .r (.mov (.cst (.bool false))), none⟩])
 .ret)
 .skip)))))))))
 (.reg [⟨.tmp 27, .r (.mov (.loc 5)), none⟩,
 ⟨.tmp 28, .r (.bin .add (.tmp 27) (.cst (.int .i64 1))), none⟩,
 ⟨.loc 5, .r (.mov (.tmp 28)), none⟩])))
/-- glebe/glebelaw07.JournalWhole -/
def c_glebelaw07_JournalWhole (f0 f1 f2 f3 f4 f5 : FuncId) : AFn := ⟨96, fun s => List.contains [0, 2, 3, 4, 5, 6, 7, 8, 9, 10, 11, 12, 18, 26, 35, 50, 94] s, (.seq (.reg [⟨.loc 2, .r (.mov (.cst (.bool false))), none⟩])
 (.seq (.reg [⟨.tmp 14, .call f0 [(.cst (.int .i64 42))], none⟩,
 ⟨.tmp 13, .r (.mov (.tmp 14)), none⟩,
 ⟨.tmp 15, .r (.ext (.tmp 13) 0), none⟩,
 ⟨.tmp 16, .r (.ext (.tmp 13) 1), none⟩,
 ⟨.loc 3, .r (.mov (.tmp 15)), none⟩,
 ⟨.loc 4, .r (.mov (.tmp 16)), none⟩])
 (.seq (.seq (.reg [⟨.tmp 17, .r (.mov (.loc 4)), none⟩,
 ⟨.loc 18, .r (.bin .neq (.tmp 17) (.cst (.int .i64 0))), none⟩])
 (.cond (.loc 18) (.seq (.reg [⟨.loc 2, .r (.mov (.cst (.bool false))), none⟩])
 .ret)
 .skip))
 (.seq (.seq (.reg [⟨.loc 5, .r (.mov (.cst (.int .i64 0))), none⟩])
 (.block 0 (.loop (c_glebelaw07_JournalWhole_l0 f0 f1 f2 f3 f4 f5))))
 (.seq (.reg [⟨.tmp 95, .call f1 [], none⟩,
 ⟨.loc 2, .r (.mov (.tmp 95)), none⟩])
 .ret))))), [(.tmp (.loc 2))]⟩

/-- glebe/glebelaw07.known -/
def c_glebelaw07_known (f0 f1 f2 f3 f4 f5 f6 : FuncId) : AFn := ⟨74, fun s => List.contains [0, 1, 2, 3, 4, 5, 6, 7, 8, 14, 46] s, (.seq (.reg [⟨.loc 0, .r (.mov (.cst (.bool false))), none⟩])
 (.seq (.reg [⟨.tmp 10, .call f0 [(.cst (.int .i64 8))], none⟩,
 ⟨.tmp 9, .r (.mov (.tmp 10)), none⟩,
 ⟨.tmp 11, .r (.ext (.tmp 9) 0), none⟩,
 ⟨.tmp 12, .r (.ext (.tmp 9) 1), none⟩,
 ⟨.loc 1, .r (.mov (.tmp 11)), none⟩,
 ⟨.loc 2, .r (.mov (.tmp 12)), none⟩])
 (.seq (.seq (.reg [⟨.tmp 13, .r (.mov (.loc 2)), none⟩,
 ⟨.loc 14, .r (.bin .neq (.tmp 13) (.cst (.int .i64 0))), none⟩])
 (.cond (.loc 14) (.seq (.reg [⟨.loc 0, .r (.mov (.cst (.bool false))), none⟩])
 .ret)
 .skip))
 (.seq (.reg [⟨.tmp 16, .r (.mov (.loc 1)), none⟩,
 ⟨.tmp 17, .call f1 [.tmp 16, (.cst (.int .i64 2)), (.cst (.int .i64 5)), (.cst (.int .i64 7))], none⟩,
 ⟨.tmp 15, .r (.mov (.tmp 17)), none⟩,
 ⟨.tmp 18, .r (.ext (.tmp 15) 0), none⟩,
 ⟨.tmp 19, .r (.ext (.tmp 15) 1), none⟩,
 ⟨.loc 3, .r (.mov (.tmp 18)), none⟩,
 ⟨.loc 4, .r (.mov (.tmp 19)), none⟩])
 (.seq (.seq (.reg [⟨.tmp 20, .r (.mov (.loc 4)), none⟩,
 ⟨.tmp 21, .r (.bin .neq (.tmp 20) (.cst (.int .i64 0))), none⟩,
 ⟨.tmp 22, .r (.mov (.tmp 21)), none⟩,
 ⟨.tmp 23, .r (.mov (.loc 3)), some (.tmp 22, false)⟩,
 ⟨.tmp 24, .r (.x (.peq false (.tmp 23))), some (.tmp 22, false)⟩,
 ⟨.tmp 25, .r (.pick (.tmp 22) (.cst (.bool true)) (.tmp 24)), none⟩,
 ⟨.tmp 26, .r (.mov (.tmp 25)), none⟩,
 ⟨.tmp 27, .r (.mov (.loc 3)), some (.tmp 26, false)⟩,
 ⟨.tmp 28, .h (.bsl 1 [(.cst (.int .u8 1)), (.cst (.int .u8 2))]), some (.tmp 26, false)⟩,
 ⟨.tmp 29, .call f2 [.tmp 27, .tmp 28], some (.tmp 26, false)⟩,
 ⟨.tmp 30, .r (.bin .neq (.tmp 29) (.cst (.int .i64 0))), some (.tmp 26, false)⟩,
 ⟨.tmp 31, .r (.pick (.tmp 26) (.cst (.bool true)) (.tmp 30)), none⟩,
 ⟨.tmp 32, .r (.mov (.tmp 31)), none⟩,
 ⟨.tmp 33, .r (.mov (.loc 3)), some (.tmp 32, false)⟩,
 ⟨.tmp 34, .call f2 [.tmp 33, (.cst .nils)], some (.tmp 32, false)⟩,
 ⟨.tmp 35, .r (.bin .neq (.tmp 34) (.cst (.int .i64 0))), some (.tmp 32, false)⟩,
 ⟨.tmp 36, .r (.pick (.tmp 32) (.cst (.bool true)) (.tmp 35)), none⟩,
 ⟨.tmp 37, .r (.mov (.tmp 36)), none⟩,
 ⟨.tmp 38, .r (.mov (.loc 3)), some (.tmp 37, false)⟩,
 ⟨.tmp 39, .call f3 [.tmp 38], some (.tmp 37, false)⟩,
 ⟨.tmp 40, .r (.bin .neq (.tmp 39) (.cst (.int .i64 3))), some (.tmp 37, false)⟩,
 ⟨.tmp 41, .r (.pick (.tmp 37) (.cst (.bool true)) (.tmp 40)), none⟩,
 ⟨.tmp 42, .r (.mov (.tmp 41)), none⟩,
 ⟨.tmp 43, .r (.mov (.loc 3)), some (.tmp 42, false)⟩,
 ⟨.tmp 44, .call f4 [.tmp 43], some (.tmp 42, false)⟩,
 ⟨.tmp 45, .r (.bin .neq (.tmp 44) (.cst (.int .i64 2))), some (.tmp 42, false)⟩,
 ⟨.loc 46, .r (.pick (.tmp 42) (.cst (.bool true)) (.tmp 45)), none⟩])
 (.cond (.loc 46) (.seq (.reg [⟨.loc 0, .r (.mov (.cst (.bool false))), none⟩])
 .ret)
 .skip))
 (.seq (.reg [⟨.tmp 48, .r (.mov (.loc 1)), none⟩,
 ⟨.tmp 49, .call f5 [.tmp 48, (.cst (.int .i64 2)), (.cst (.int .i64 5)), (.cst (.int .i64 7))], none⟩,
 ⟨.tmp 47, .r (.mov (.tmp 49)), none⟩,
 ⟨.tmp 50, .r (.ext (.tmp 47) 0), none⟩,
 ⟨.tmp 51, .r (.ext (.tmp 47) 1), none⟩,
 ⟨.loc 5, .r (.mov (.tmp 50)), none⟩,
 ⟨.loc 6, .r (.mov (.tmp 51)), none⟩])
 (.seq (.reg [⟨.tmp 53, .r (.mov (.loc 1)), none⟩,
 ⟨.tmp 54, .call f5 [.tmp 53, (.cst (.int .i64 2)), (.cst (.int .i64 5)), (.cst (.int .i64 8))], none⟩,
 ⟨.tmp 52, .r (.mov (.tmp 54)), none⟩,
 ⟨.tmp 55, .r (.ext (.tmp 52) 0), none⟩,
 ⟨.tmp 56, .r (.ext (.tmp 52) 1), none⟩,
 ⟨.loc 7, .r (.mov (.tmp 55)), none⟩,
 ⟨.loc 8, .r (.mov (.tmp 56)), none⟩])
 (.seq (.reg [⟨.tmp 57, .r (.mov (.loc 6)), none⟩,
 ⟨.tmp 58, .r (.bin .eql (.tmp 57) (.cst (.int .i64 0))), none⟩,
 ⟨.tmp 59, .r (.mov (.tmp 58)), none⟩,
 ⟨.tmp 60, .r (.mov (.loc 5)), some (.tmp 59, true)⟩,
 ⟨.tmp 61, .h (.bsl 1 [(.cst (.int .u8 1)), (.cst (.int .u8 2))]), some (.tmp 59, true)⟩,
 ⟨.tmp 62, .h (.bsl 1 [.tmp 61, (.cst .nils)]), some (.tmp 59, true)⟩,
 ⟨.tmp 63, .call f6 [.tmp 60, .tmp 62], some (.tmp 59, true)⟩,
 ⟨.tmp 64, .r (.pick (.tmp 59) (.tmp 63) (.cst (.bool false))), none⟩,
 ⟨.tmp 65, .r (.mov (.tmp 64)), none⟩,
 ⟨.tmp 66, .r (.mov (.loc 8)), some (.tmp 65, true)⟩,
 ⟨.tmp 67, .r (.bin .eql (.tmp 66) (.cst (.int .i64 0))), some (.tmp 65, true)⟩,
 ⟨.tmp 68, .r (.pick (.tmp 65) (.tmp 67) (.cst (.bool false))), none⟩,
 ⟨.tmp 69, .r (.mov (.tmp 68)), none⟩,
 ⟨.tmp 70, .r (.mov (.loc 7)), some (.tmp 69, true)⟩,
 ⟨.tmp 71, .r (.len (.tmp 70)), some (.tmp 69, true)⟩,
 ⟨.tmp 72, .r (.bin .eql (.tmp 71) (.cst (.int .i64 0))), some (.tmp 69, true)⟩,
 ⟨.tmp 73, .r (.pick (.tmp 69) (.tmp 72) (.cst (.bool false))), none⟩,
 ⟨.loc 0, .r (.mov (.tmp 73)), none⟩])
 .ret)))))))), [(.tmp (.loc 0))]⟩

def c_glebelaw07_lives_l0 (f0 f1 f2 f3 f4 f5 f6 f7 : FuncId) : AC := (.seq (.seq (.reg [⟨.tmp 32, .r (.mov (.loc 12)), none⟩,
 ⟨.tmp 33, .r (.off 0 (.loc 5)), none⟩,
 ⟨.tmp 34, .r (.load false 1 (.tmp 33)), none⟩,
 ⟨.tmp 35, .r (.len (.tmp 34)), none⟩,
 ⟨.tmp 36, .r (.bin .lss (.tmp 32) (.tmp 35)), none⟩,
 ⟨.tmp 37, .r (.mov (.tmp 36)), none⟩,
 ⟨.tmp 38, .r (.mov (.loc 12)), some (.tmp 37, true)⟩,
 ⟨.tmp 39, .r (.bin .lss (.tmp 38) (.cst (.int .i64 50))), some (.tmp 37, true)⟩,
 ⟨.loc 40, .r (.pick (.tmp 37) (.tmp 39) (.cst (.bool false))), none⟩])
 (.cond (.loc 40) .skip
 (.exit 0)))
 (.seq (.block 1 (.seq (.dreg ⟨[0, 1, 0, 7, 15, 0, 32, 0, 224, 480, 992, 2016, 4095, 8191], 0, [⟨0, 0, false, .r (.off 0 (.loc 5)), none⟩,
 ⟨1, 0, false, .r (.load false 1 (.tmp 0)), none⟩,
 ⟨2, 0, false, .r (.mov (.loc 12)), none⟩,
 ⟨3, 0, false, .r (.idx 1 (.tmp 1) (.tmp 2)), none⟩,
 ⟨4, 0, false, .r (.load false 1 (.tmp 3)), none⟩,
 ⟨5, 0, false, .r (.off 0 (.loc 5)), none⟩,
 ⟨6, 0, false, .r (.load false 1 (.tmp 5)), none⟩,
 ⟨7, 0, false, .r (.mov (.loc 12)), none⟩,
 ⟨8, 0, false, .r (.idx 1 (.tmp 6) (.tmp 7)), none⟩,
 ⟨9, 0, false, .r (.load false 1 (.tmp 8)), none⟩,
 ⟨10, 0, false, .r (.len (.tmp 9)), none⟩,
 ⟨11, 0, false, .r (.mnmx false [.tmp 10, (.cst (.int .i64 300))]), none⟩,
 ⟨12, 0, false, .r (.slc 1 (.tmp 4) none (some (.tmp 11)) none), none⟩,
 ⟨13, 0, false, .r (.mov (.tmp 12)), none⟩], [(13, 13)]⟩)
 (.seq (.reg [⟨.tmp 56, .r (.mov (.loc 9)), none⟩,
 ⟨.tmp 57, .call f3 [.tmp 56], none⟩,
 ⟨.loc 14, .r (.mov (.tmp 57)), none⟩])
 (.seq (.reg [⟨.tmp 58, .r (.mov (.loc 9)), none⟩,
 ⟨.tmp 59, .r (.mov (.loc 13)), none⟩,
 ⟨.loc 60, .call f4 [.tmp 58, .tmp 59], none⟩])
 (.block 2 (.seq (.reg [⟨.tmp 62, .r (.bin .eql (.loc 60) (.cst (.int .i64 0))), none⟩,
 ⟨.loc 61, .r (.mov (.tmp 62)), none⟩])
 (.cond (.loc 61) (.seq (.reg [⟨.tmp 63, .r (.mov (.loc 11)), none⟩,
 ⟨.tmp 64, .r (.mov (.loc 13)), none⟩,
 ⟨.tmp 65, .h (.bsl 1 [.tmp 64]), none⟩,
 ⟨.tmp 66, .h (.app 1 24 (.tmp 63) (.tmp 65)), none⟩,
 ⟨.loc 11, .r (.mov (.tmp 66)), none⟩])
 (.seq (.reg [⟨.tmp 67, .r (.mov (.loc 9)), none⟩,
 ⟨.tmp 68, .call f3 [.tmp 67], none⟩,
 ⟨.tmp 69, .r (.mov (.loc 14)), none⟩,
 ⟨.tmp 70, .r (.bin .geq (.tmp 68) (.tmp 69)), none⟩,
 ⟨.tmp 71, .r (.mov (.tmp 70)), none⟩,
 ⟨.tmp 72, .r (.mov (.loc 9)), some (.tmp 71, false)⟩,
 ⟨.tmp 73, .call f5 [.tmp 72], some (.tmp 71, false)⟩,
 ⟨.tmp 74, .r (.mov (.loc 11)), some (.tmp 71, false)⟩,
 ⟨.tmp 75, .r (.len (.tmp 74)), some (.tmp 71, false)⟩,
 ⟨.tmp 76, .r (.bin .neq (.tmp 73) (.tmp 75)), some (.tmp 71, false)⟩,
 ⟨.loc 77, .r (.pick (.tmp 71) (.cst (.bool true)) (.tmp 76)), none⟩])
 (.cond (.loc 77) (.seq (.reg [⟨.loc 6, .r (.mov (.cst .nils)), none⟩,
 ⟨.loc 7, .r (.mov (.cst .nils)), none⟩,
 ⟨.loc 8, .r (.mov (.cst (.bool false))), none⟩])
 .ret)
 .skip)))
 (.seq (.reg [⟨.tmp 79, .r (.bin .eql (.loc 60) (.cst (.int .i64 8))), none⟩,
 ⟨.loc 78, .r (.mov (.tmp 79)), none⟩])
 (.cond (.loc 78) (.seq (.reg [⟨.tmp 80, .r (.mov (.loc 9)), none⟩,
 ⟨.tmp 81, .call f3 [.tmp 80], none⟩,
 ⟨.tmp 82, .r (.mov (.loc 14)), none⟩,
 ⟨.tmp 83, .r (.bin .neq (.tmp 81) (.tmp 82)), none⟩,
 ⟨.tmp 84, .r (.mov (.tmp 83)), none⟩,
 ⟨.tmp 85, .r (.mov (.loc 14)), some (.tmp 84, false)⟩,
 ⟨.tmp 86, .r (.bin .mul (.tmp 85) (.cst (.int .i64 40))), some (.tmp 84, false)⟩,
 ⟨.tmp 87, .r (.mov (.loc 13)), some (.tmp 84, false)⟩,
 ⟨.tmp 88, .r (.len (.tmp 87)), some (.tmp 84, false)⟩,
 ⟨.tmp 89, .r (.mnmx true [.tmp 88, (.cst (.int .i64 1))]), some (.tmp 84, false)⟩,
 ⟨.tmp 90, .r (.bin .geq (.tmp 86) (.tmp 89)), some (.tmp 84, false)⟩,
 ⟨.loc 91, .r (.pick (.tmp 84) (.cst (.bool true)) (.tmp 90)), none⟩])
 (.cond (.loc 91) (.seq (.reg [⟨.loc 6, .r (.mov (.cst .nils)), none⟩,
 ⟨.loc 7, .r (.mov (.cst .nils)), none⟩,
 ⟨.loc 8, .r (.mov (.cst (.bool false))), none⟩])
 .ret)
 .skip))
 (.seq (.reg [⟨.tmp 93, .r (.bin .eql (.loc 60) (.cst (.int .i64 10))), none⟩,
 ⟨.loc 92, .r (.mov (.tmp 93)), none⟩])
 (.cond (.loc 92) (.seq (.reg [⟨.tmp 94, .r (.mov (.loc 11)), none⟩,
 ⟨.tmp 95, .r (.mov (.loc 11)), none⟩,
 ⟨.tmp 96, .call f6 [.tmp 95], none⟩,
 ⟨.tmp 97, .r (.mov (.loc 13)), none⟩,
 ⟨.tmp 98, .h (.bsl 1 [.tmp 97]), none⟩,
 ⟨.tmp 99, .h (.app 1 24 (.tmp 96) (.tmp 98)), none⟩,
 ⟨.tmp 100, .r (.mov (.loc 0)), none⟩,
 ⟨.tmp 101, .call f7 [.tmp 100], none⟩,
 ⟨.loc 6, .r (.mov (.tmp 94)), none⟩,
 ⟨.loc 7, .r (.mov (.tmp 99)), none⟩,
 ⟨.loc 8, .r (.mov (.tmp 101)), none⟩])
 .ret)
 (.seq (.reg [⟨.loc 6, .r (.mov (.cst .nils)), none⟩,
 ⟨.loc 7, .r (.mov (.cst .nils)), none⟩,
 ⟨.loc 8, .r (.mov (.cst (.bool false))), none⟩])
 .ret))))))))))))
 (.reg [⟨.tmp 41, .r (.mov (.loc 12)), none⟩,
 ⟨.tmp 42, .r (.bin .add (.tmp 41) (.cst (.int .i64 1))), none⟩,
 ⟨.loc 12, .r (.mov (.tmp 42)), none⟩])))
/-- glebe/glebelaw07.lives -/
def c_glebelaw07_lives (f0 f1 f2 f3 f4 f5 f6 f7 : FuncId) : AFn := ⟨104, fun s => List.contains [0, 1, 2, 5, 6, 7, 8, 9, 10, 11, 12, 13, 14, 26, 40, 60, 61, 77, 78, 91, 92] s, (.seq (.reg [⟨.loc 5, .h (.box (.loc 2)), none⟩,
 ⟨.loc 6, .r (.mov (.cst .nils)), none⟩,
 ⟨.loc 7, .r (.mov (.cst .nils)), none⟩,
 ⟨.loc 8, .r (.mov (.cst (.bool false))), none⟩])
 (.seq (.reg [⟨.tmp 16, .r (.mov (.loc 0)), none⟩,
 ⟨.tmp 17, .r (.mov (.loc 1)), none⟩,
 ⟨.tmp 18, .call f0 [.tmp 16, (.cst (.int .i64 1)), (.cst (.int .i64 40)), .tmp 17], none⟩,
 ⟨.tmp 15, .r (.mov (.tmp 18)), none⟩,
 ⟨.tmp 19, .r (.ext (.tmp 15) 0), none⟩,
 ⟨.tmp 20, .r (.ext (.tmp 15) 1), none⟩,
 ⟨.loc 9, .r (.mov (.tmp 19)), none⟩,
 ⟨.loc 10, .r (.mov (.tmp 20)), none⟩])
 (.seq (.seq (.reg [⟨.tmp 21, .r (.mov (.loc 10)), none⟩,
 ⟨.tmp 22, .r (.bin .neq (.tmp 21) (.cst (.int .i64 0))), none⟩,
 ⟨.tmp 23, .r (.mov (.tmp 22)), none⟩,
 ⟨.tmp 24, .r (.mov (.loc 9)), some (.tmp 23, false)⟩,
 ⟨.tmp 25, .r (.x (.peq false (.tmp 24))), some (.tmp 23, false)⟩,
 ⟨.loc 26, .r (.pick (.tmp 23) (.cst (.bool true)) (.tmp 25)), none⟩])
 (.cond (.loc 26) (.seq (.reg [⟨.loc 6, .r (.mov (.cst .nils)), none⟩,
 ⟨.loc 7, .r (.mov (.cst .nils)), none⟩,
 ⟨.loc 8, .r (.mov (.cst (.bool false))), none⟩])
 .ret)
 .skip))
 (.seq (.reg [⟨.tmp 27, .r (.mov (.loc 0)), none⟩,
 ⟨.tmp 28, .r (.off 1 (.loc 5)), none⟩,
 ⟨.tmp 29, .r (.load false 1 (.tmp 28)), none⟩,
 ⟨.tmp 30, .call f1 [.tmp 29, (.cst (.int .i64 150))], none⟩,
 ⟨.tmp 31, .call f2 [.tmp 27, .tmp 30], none⟩])
 (.seq (.reg [⟨.loc 11, .r (.mov (.cst .nils)), none⟩])
 (.seq (.seq (.reg [⟨.loc 12, .r (.mov (.cst (.int .i64 0))), none⟩])
 (.block 0 (.loop (c_glebelaw07_lives_l0 f0 f1 f2 f3 f4 f5 f6 f7))))
 (.seq (.reg [⟨.tmp 102, .r (.mov (.loc 11)), none⟩,
 ⟨.tmp 103, .r (.mov (.loc 11)), none⟩,
 ⟨.loc 6, .r (.mov (.tmp 102)), none⟩,
 ⟨.loc 7, .r (.mov (.tmp 103)), none⟩,
 ⟨.loc 8, .r (.mov (.cst (.bool true))), none⟩])
 .ret))))))), [(.tmp (.loc 6)), (.tmp (.loc 7)), (.tmp (.loc 8))]⟩

def c_glebekit_CopyRows_l0 (f0 : FuncId) : AC := (.seq (.seq (.reg [⟨.tmp 5, .r (.mov (.loc 4)), none⟩,
 ⟨.tmp 6, .r (.mov (.loc 0)), none⟩,
 ⟨.tmp 7, .r (.len (.tmp 6)), none⟩,
 ⟨.loc 8, .r (.bin .lss (.tmp 5) (.tmp 7)), none⟩])
 (.cond (.loc 8) .skip
 (.exit 0)))
 (.seq (.block 1 (.reg [⟨.tmp 11, .r (.mov (.loc 3)), none⟩,
 ⟨.tmp 12, .r (.mov (.loc 0)), none⟩,
 ⟨.tmp 13, .r (.mov (.loc 4)), none⟩,
 ⟨.tmp 14, .r (.idx 1 (.tmp 12) (.tmp 13)), none⟩,
 ⟨.tmp 15, .r (.load false 1 (.tmp 14)), none⟩,
 ⟨.tmp 16, .call f0 [.tmp 15], none⟩,
 ⟨.tmp 17, .h (.bsl 1 [.tmp 16]), none⟩,
 ⟨.tmp 18, .h (.app 1 24 (.tmp 11) (.tmp 17)), none⟩,
 ⟨.loc 3, .r (.mov (.tmp 18)), none⟩]))
 (.reg [⟨.tmp 9, .r (.mov (.loc 4)), none⟩,
 ⟨.tmp 10, .r (.bin .add (.tmp 9) (.cst (.int .i64 1))), none⟩,
 ⟨.loc 4, .r (.mov (.tmp 10)), none⟩])))
/-- glebe/glebekit.CopyRows -/
def c_glebekit_CopyRows (f0 : FuncId) : AFn := ⟨20, fun s => List.contains [0, 2, 3, 4, 8] s, (.seq (.reg [⟨.loc 2, .r (.mov (.cst .nils)), none⟩])
 (.seq (.reg [⟨.loc 3, .r (.mov (.cst .nils)), none⟩])
 (.seq (.seq (.reg [⟨.loc 4, .r (.mov (.cst (.int .i64 0))), none⟩])
 (.block 0 (.loop (c_glebekit_CopyRows_l0 f0))))
 (.seq (.reg [⟨.tmp 19, .r (.mov (.loc 3)), none⟩,
 ⟨.loc 2, .r (.mov (.tmp 19)), none⟩])
 .ret)))), [(.tmp (.loc 2))]⟩

end Glb
