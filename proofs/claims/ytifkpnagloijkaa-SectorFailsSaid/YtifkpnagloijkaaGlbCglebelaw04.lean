/-
  What functions of the program are, one by one (the functions that they call as parameters), in a form of which something can be shown.
-/
import Derived.Test.YtifkpnagloijkaaGlbLibB
set_option linter.unusedSimpArgs false
set_option linter.unusedVariables false
namespace Glb
open Go
set_option maxRecDepth 100000

def c_glebelaw04_SectorFails_l0 (f0 f1 f2 f3 f4 f5 f6 f7 f8 f9 f10 : FuncId) : AC := (.seq (.seq (.reg [⟨.tmp 25, .r (.mov (.loc 8)), none⟩,
 ⟨.tmp 26, .r (.mov (.loc 0)), none⟩,
 ⟨.tmp 27, .r (.len (.tmp 26)), none⟩,
 ⟨.loc 28, .r (.bin .lss (.tmp 25) (.tmp 27)), none⟩])
 (.cond (.loc 28) .skip
 (.exit 0)))
 (.seq (.block 1 (.seq (.seq (.reg [⟨.tmp 31, .r (.mov (.loc 0)), none⟩,
 ⟨.tmp 32, .r (.mov (.loc 8)), none⟩,
 ⟨.tmp 33, .r (.idx 5 (.tmp 31) (.tmp 32)), none⟩,
 ⟨.tmp 34, .r (.off 0 (.tmp 33)), none⟩,
 ⟨.tmp 35, .r (.load false 1 (.tmp 34)), none⟩,
 ⟨.tmp 36, .r (.bin .neq (.tmp 35) (.cst (.int .i64 0))), none⟩,
 ⟨.tmp 37, .r (.mov (.tmp 36)), none⟩,
 ⟨.tmp 38, .r (.mov (.loc 0)), some (.tmp 37, true)⟩,
 ⟨.tmp 39, .r (.mov (.loc 8)), some (.tmp 37, true)⟩,
 ⟨.tmp 40, .r (.idx 5 (.tmp 38) (.tmp 39)), some (.tmp 37, true)⟩,
 ⟨.tmp 41, .r (.off 0 (.tmp 40)), some (.tmp 37, true)⟩,
 ⟨.tmp 42, .r (.load false 1 (.tmp 41)), some (.tmp 37, true)⟩,
 ⟨.tmp 43, .r (.bin .neq (.tmp 42) (.cst (.int .i64 1))), some (.tmp 37, true)⟩,
 ⟨.loc 44, .r (.pick (.tmp 37) (.tmp 43) (.cst (.bool false))), none⟩])
 (.cond (.loc 44) (.exit 1)
 .skip))
 (.seq (.reg [⟨.tmp 45, .r (.mov (.loc 5)), none⟩,
 ⟨.tmp 46, .call f5 [.tmp 45], none⟩,
 ⟨.loc 9, .r (.mov (.tmp 46)), none⟩])
 (.seq (.reg [⟨.tmp 47, .r (.mov (.loc 5)), none⟩,
 ⟨.tmp 48, .call f6 [.tmp 47], none⟩,
 ⟨.loc 10, .r (.mov (.tmp 48)), none⟩])
 (.seq (.reg [⟨.tmp 49, .r (.mov (.loc 5)), none⟩,
 ⟨.tmp 50, .r (.mov (.loc 0)), none⟩,
 ⟨.tmp 51, .r (.mov (.loc 8)), none⟩,
 ⟨.tmp 52, .r (.idx 5 (.tmp 50) (.tmp 51)), none⟩,
 ⟨.tmp 53, .r (.load true 5 (.tmp 52)), none⟩,
 ⟨.tmp 54, .call f7 [.tmp 49, .tmp 53], none⟩,
 ⟨.loc 11, .r (.mov (.tmp 54)), none⟩])
 (.seq (.seq (.reg [⟨.tmp 55, .r (.mov (.loc 11)), none⟩,
 ⟨.loc 56, .r (.bin .eql (.tmp 55) (.cst (.int .i64 0))), none⟩])
 (.cond (.loc 56) (.reg [⟨.tmp 57, .r (.mov (.loc 7)), none⟩,
 ⟨.tmp 58, .r (.bin .sub (.tmp 57) (.cst (.int .i64 1))), none⟩,
 ⟨.loc 7, .r (.mov (.tmp 58)), none⟩])
 .skip))
 (.seq (.seq (.reg [⟨.tmp 59, .r (.mov (.loc 7)), none⟩,
 ⟨.tmp 60, .r (.bin .lss (.tmp 59) (.cst (.int .i64 0))), none⟩,
 ⟨.tmp 61, .r (.mov (.tmp 60)), none⟩,
 ⟨.tmp 62, .r (.mov (.loc 11)), some (.tmp 61, false)⟩,
 ⟨.tmp 63, .r (.bin .eql (.tmp 62) (.cst (.int .i64 10))), some (.tmp 61, false)⟩,
 ⟨.tmp 64, .r (.mov (.loc 5)), some (.tmp 61, false)⟩,
 ⟨.tmp 65, .call f8 [.tmp 64], some (.tmp 61, false)⟩,
 ⟨.tmp 66, .r (.beq .neq (.tmp 63) (.tmp 65)), some (.tmp 61, false)⟩,
 ⟨.tmp 67, .r (.pick (.tmp 61) (.cst (.bool true)) (.tmp 66)), none⟩,
 ⟨.tmp 68, .r (.mov (.tmp 67)), none⟩,
 ⟨.tmp 69, .r (.mov (.loc 11)), some (.tmp 68, false)⟩,
 ⟨.tmp 70, .r (.bin .eql (.tmp 69) (.cst (.int .i64 10))), some (.tmp 68, false)⟩,
 ⟨.tmp 71, .r (.mov (.tmp 70)), some (.tmp 68, false)⟩,
 ⟨.tmp 72, .r (.mov (.loc 7)), some (.tmp 71, true)⟩,
 ⟨.tmp 73, .r (.bin .neq (.tmp 72) (.cst (.int .i64 0))), some (.tmp 71, true)⟩,
 ⟨.tmp 74, .r (.pick (.tmp 71) (.tmp 73) (.cst (.bool false))), some (.tmp 68, false)⟩,
 ⟨.loc 75, .r (.pick (.tmp 68) (.cst (.bool true)) (.tmp 74)), none⟩])
 (.cond (.loc 75) (.seq (.reg [⟨.loc 4, .r (.mov (.cst (.bool false))), none⟩])
 .ret)
 .skip))
 (.seq (.reg [⟨.tmp 76, .r (.mov (.loc 11)), none⟩,
 ⟨.tmp 77, .r (.bin .neq (.tmp 76) (.cst (.int .i64 0))), none⟩,
 ⟨.tmp 78, .r (.mov (.tmp 77)), none⟩,
 ⟨.tmp 79, .r (.mov (.loc 9)), some (.tmp 78, true)⟩,
 ⟨.tmp 80, .r (.mov (.loc 5)), some (.tmp 78, true)⟩,
 ⟨.tmp 81, .call f5 [.tmp 80], some (.tmp 78, true)⟩,
 ⟨.tmp 82, .call f9 [.tmp 79, .tmp 81], some (.tmp 78, true)⟩,
 ⟨.tmp 83, .r (.not (.tmp 82)), some (.tmp 78, true)⟩,
 ⟨.tmp 84, .r (.mov (.tmp 83)), some (.tmp 78, true)⟩,
 ⟨.tmp 85, .r (.mov (.loc 10)), some (.tmp 84, false)⟩,
 ⟨.tmp 86, .r (.mov (.loc 5)), some (.tmp 84, false)⟩,
 ⟨.tmp 87, .call f6 [.tmp 86], some (.tmp 84, false)⟩,
 ⟨.tmp 88, .call f10 [.tmp 85, .tmp 87], some (.tmp 84, false)⟩,
 ⟨.tmp 89, .r (.not (.tmp 88)), some (.tmp 84, false)⟩,
 ⟨.tmp 90, .r (.pick (.tmp 84) (.cst (.bool true)) (.tmp 89)), some (.tmp 78, true)⟩,
 ⟨.loc 91, .r (.pick (.tmp 78) (.tmp 90) (.cst (.bool false))), none⟩])
 (.cond (.loc 91) (.seq (.reg [⟨.loc 4, .r (.mov (.cst (.bool false))), none⟩])
 .ret)
 .skip)))))))))
 (.reg [⟨.tmp 29, .r (.mov (.loc 8)), none⟩,
 ⟨.tmp 30, .r (.bin .add (.tmp 29) (.cst (.int .i64 1))), none⟩,
 ⟨.loc 8, .r (.mov (.tmp 30)), none⟩])))
/-- glebe/glebelaw04.SectorFails -/
def c_glebelaw04_SectorFails (f0 f1 f2 f3 f4 f5 f6 f7 f8 f9 f10 : FuncId) : AFn := ⟨92, fun s => List.contains [0, 1, 4, 5, 7, 8, 9, 10, 11, 13, 15, 28, 44, 56, 75, 91] s, (.seq (.reg [⟨.loc 4, .r (.mov (.cst (.bool false))), none⟩])
 (.seq (.seq (.reg [⟨.tmp 12, .call f0 [], none⟩,
 ⟨.loc 13, .r (.not (.tmp 12)), none⟩])
 (.cond (.loc 13) (.seq (.reg [⟨.loc 4, .r (.mov (.cst (.bool false))), none⟩])
 .ret)
 .skip))
 (.seq (.seq (.reg [⟨.tmp 14, .r (.mov (.loc 0)), none⟩,
 ⟨.loc 15, .call f1 [.tmp 14], none⟩])
 (.cond (.loc 15) (.seq (.reg [⟨.loc 4, .r (.mov (.cst (.bool true))), none⟩])
 .ret)
 .skip))
 (.seq (.reg [⟨.tmp 17, .call f2 [(.cst (.int .i64 16))], none⟩,
 ⟨.tmp 16, .r (.mov (.tmp 17)), none⟩,
 ⟨.tmp 18, .r (.ext (.tmp 16) 0), none⟩,
 ⟨.tmp 19, .r (.ext (.tmp 16) 1), none⟩,
 ⟨.loc 5, .r (.mov (.tmp 18)), none⟩,
 ⟨.tmp 6, .r (.mov (.tmp 19)), none⟩])
 (.seq (.reg [⟨.tmp 20, .r (.mov (.loc 1)), none⟩,
 ⟨.tmp 21, .call f3 [.tmp 20, (.cst (.int .i64 100))], none⟩,
 ⟨.loc 7, .r (.mov (.tmp 21)), none⟩])
 (.seq (.reg [⟨.tmp 22, .r (.mov (.loc 5)), none⟩,
 ⟨.tmp 23, .r (.mov (.loc 7)), none⟩,
 ⟨.tmp 24, .call f4 [.tmp 22, .tmp 23], none⟩])
 (.seq (.seq (.reg [⟨.loc 8, .r (.mov (.cst (.int .i64 0))), none⟩])
 (.block 0 (.loop (c_glebelaw04_SectorFails_l0 f0 f1 f2 f3 f4 f5 f6 f7 f8 f9 f10))))
 (.seq (.reg [⟨.loc 4, .r (.mov (.cst (.bool true))), none⟩])
 .ret)))))))), [(.tmp (.loc 4))]⟩

/-- glebe/glebelaw04.works -/
def c_glebelaw04_works (f0 f1 f2 f3 f4 f5 f6 : FuncId) : AFn := ⟨78, fun s => List.contains [0, 1, 2, 3, 4, 5, 6, 8, 9, 10, 20] s, (.seq (.reg [⟨.loc 0, .r (.mov (.cst (.bool false))), none⟩])
 (.seq (.reg [⟨.tmp 12, .call f0 [(.cst (.int .i64 4))], none⟩,
 ⟨.tmp 11, .r (.mov (.tmp 12)), none⟩,
 ⟨.tmp 13, .r (.ext (.tmp 11) 0), none⟩,
 ⟨.tmp 14, .r (.ext (.tmp 11) 1), none⟩,
 ⟨.loc 1, .r (.mov (.tmp 13)), none⟩,
 ⟨.loc 2, .r (.mov (.tmp 14)), none⟩])
 (.seq (.seq (.reg [⟨.tmp 15, .r (.mov (.loc 2)), none⟩,
 ⟨.tmp 16, .r (.bin .neq (.tmp 15) (.cst (.int .i64 0))), none⟩,
 ⟨.tmp 17, .r (.mov (.tmp 16)), none⟩,
 ⟨.tmp 18, .r (.mov (.loc 1)), some (.tmp 17, false)⟩,
 ⟨.tmp 19, .r (.x (.peq false (.tmp 18))), some (.tmp 17, false)⟩,
 ⟨.loc 20, .r (.pick (.tmp 17) (.cst (.bool true)) (.tmp 19)), none⟩])
 (.cond (.loc 20) (.seq (.reg [⟨.loc 0, .r (.mov (.cst (.bool false))), none⟩])
 .ret)
 .skip))
 (.seq (.reg [⟨.tmp 21, .r (.mov (.loc 1)), none⟩,
 ⟨.tmp 22, .h (.bsl 1 [(.cst (.int .u8 7))]), none⟩,
 ⟨.tmp 23, .call f1 [.tmp 21, (.cst (.int .i64 1)), .tmp 22], none⟩,
 ⟨.loc 3, .r (.mov (.tmp 23)), none⟩])
 (.seq (.reg [⟨.tmp 24, .r (.mov (.loc 1)), none⟩,
 ⟨.tmp 25, .call f2 [.tmp 24], none⟩,
 ⟨.loc 4, .r (.mov (.tmp 25)), none⟩])
 (.seq (.reg [⟨.tmp 26, .r (.mov (.loc 1)), none⟩,
 ⟨.tmp 27, .h (.bsl 1 [(.cst (.int .u8 8))]), none⟩,
 ⟨.tmp 28, .call f1 [.tmp 26, (.cst (.int .i64 1)), .tmp 27], none⟩,
 ⟨.loc 5, .r (.mov (.tmp 28)), none⟩])
 (.seq (.reg [⟨.tmp 29, .r (.mov (.loc 1)), none⟩,
 ⟨.tmp 30, .h (.bsl 1 [(.cst (.int .u8 9))]), none⟩,
 ⟨.tmp 31, .call f1 [.tmp 29, (.cst (.int .i64 2)), .tmp 30], none⟩,
 ⟨.loc 6, .r (.mov (.tmp 31)), none⟩])
 (.seq (.reg [⟨.tmp 32, .r (.mov (.loc 1)), none⟩,
 ⟨.tmp 33, .h (.bsl 1 [(.cst (.int .i64 2)), (.cst (.int .i64 1))]), none⟩,
 ⟨.tmp 34, .call f3 [.tmp 32, .tmp 33], none⟩])
 (.seq (.reg [⟨.tmp 36, .r (.mov (.loc 1)), none⟩,
 ⟨.tmp 37, .call f4 [.tmp 36, (.cst (.int .i64 1))], none⟩,
 ⟨.tmp 35, .r (.mov (.tmp 37)), none⟩,
 ⟨.tmp 38, .r (.ext (.tmp 35) 0), none⟩,
 ⟨.tmp 39, .r (.ext (.tmp 35) 1), none⟩,
 ⟨.tmp 7, .r (.mov (.tmp 38)), none⟩,
 ⟨.loc 8, .r (.mov (.tmp 39)), none⟩])
 (.seq (.reg [⟨.tmp 41, .r (.mov (.loc 1)), none⟩,
 ⟨.tmp 42, .call f4 [.tmp 41, (.cst (.int .i64 2))], none⟩,
 ⟨.tmp 40, .r (.mov (.tmp 42)), none⟩,
 ⟨.tmp 43, .r (.ext (.tmp 40) 0), none⟩,
 ⟨.tmp 44, .r (.ext (.tmp 40) 1), none⟩,
 ⟨.loc 9, .r (.mov (.tmp 43)), none⟩,
 ⟨.loc 10, .r (.mov (.tmp 44)), none⟩])
 (.seq (.reg [⟨.tmp 45, .r (.mov (.loc 3)), none⟩,
 ⟨.tmp 46, .r (.bin .eql (.tmp 45) (.cst (.int .i64 0))), none⟩,
 ⟨.tmp 47, .r (.mov (.tmp 46)), none⟩,
 ⟨.tmp 48, .r (.mov (.loc 4)), some (.tmp 47, true)⟩,
 ⟨.tmp 49, .r (.bin .eql (.tmp 48) (.cst (.int .i64 0))), some (.tmp 47, true)⟩,
 ⟨.tmp 50, .r (.pick (.tmp 47) (.tmp 49) (.cst (.bool false))), none⟩,
 ⟨.tmp 51, .r (.mov (.tmp 50)), none⟩,
 ⟨.tmp 52, .r (.mov (.loc 5)), some (.tmp 51, true)⟩,
 ⟨.tmp 53, .r (.bin .eql (.tmp 52) (.cst (.int .i64 0))), some (.tmp 51, true)⟩,
 ⟨.tmp 54, .r (.pick (.tmp 51) (.tmp 53) (.cst (.bool false))), none⟩,
 ⟨.tmp 55, .r (.mov (.tmp 54)), none⟩,
 ⟨.tmp 56, .r (.mov (.loc 6)), some (.tmp 55, true)⟩,
 ⟨.tmp 57, .r (.bin .eql (.tmp 56) (.cst (.int .i64 0))), some (.tmp 55, true)⟩,
 ⟨.tmp 58, .r (.pick (.tmp 55) (.tmp 57) (.cst (.bool false))), none⟩,
 ⟨.tmp 59, .r (.mov (.tmp 58)), none⟩,
 ⟨.tmp 60, .r (.mov (.loc 8)), some (.tmp 59, true)⟩,
 ⟨.tmp 61, .r (.bin .eql (.tmp 60) (.cst (.int .i64 9))), some (.tmp 59, true)⟩,
 ⟨.tmp 62, .r (.pick (.tmp 59) (.tmp 61) (.cst (.bool false))), none⟩,
 ⟨.tmp 63, .r (.mov (.tmp 62)), none⟩,
 ⟨.tmp 64, .r (.mov (.loc 10)), some (.tmp 63, true)⟩,
 ⟨.tmp 65, .r (.bin .eql (.tmp 64) (.cst (.int .i64 0))), some (.tmp 63, true)⟩,
 ⟨.tmp 66, .r (.pick (.tmp 63) (.tmp 65) (.cst (.bool false))), none⟩,
 ⟨.tmp 67, .r (.mov (.tmp 66)), none⟩,
 ⟨.tmp 68, .r (.mov (.loc 9)), some (.tmp 67, true)⟩,
 ⟨.tmp 69, .h (.bsl 1 [(.cst (.int .u8 9))]), some (.tmp 67, true)⟩,
 ⟨.tmp 70, .call f5 [.tmp 68, .tmp 69], some (.tmp 67, true)⟩,
 ⟨.tmp 71, .r (.pick (.tmp 67) (.tmp 70) (.cst (.bool false))), none⟩,
 ⟨.tmp 72, .r (.mov (.tmp 71)), none⟩,
 ⟨.tmp 73, .r (.mov (.loc 1)), some (.tmp 72, true)⟩,
 ⟨.tmp 74, .call f6 [.tmp 73], some (.tmp 72, true)⟩,
 ⟨.tmp 75, .r (.len (.tmp 74)), some (.tmp 72, true)⟩,
 ⟨.tmp 76, .r (.bin .eql (.tmp 75) (.cst (.int .i64 0))), some (.tmp 72, true)⟩,
 ⟨.tmp 77, .r (.pick (.tmp 72) (.tmp 76) (.cst (.bool false))), none⟩,
 ⟨.loc 0, .r (.mov (.tmp 77)), none⟩])
 .ret))))))))))), [(.tmp (.loc 0))]⟩

def c_glebelaw04_long_l0 : AC := (.seq (.seq (.reg [⟨.tmp 7, .r (.mov (.loc 3)), none⟩,
 ⟨.tmp 8, .r (.mov (.loc 0)), none⟩,
 ⟨.tmp 9, .r (.len (.tmp 8)), none⟩,
 ⟨.loc 10, .r (.bin .lss (.tmp 7) (.tmp 9)), none⟩])
 (.cond (.loc 10) .skip
 (.exit 0)))
 (.seq (.block 1 (.seq (.reg [⟨.tmp 13, .r (.mov (.loc 0)), none⟩,
 ⟨.tmp 14, .r (.mov (.loc 3)), none⟩,
 ⟨.tmp 15, .r (.idx 5 (.tmp 13) (.tmp 14)), none⟩,
 ⟨.tmp 16, .r (.off 3 (.tmp 15)), none⟩,
 ⟨.tmp 17, .r (.load false 1 (.tmp 16)), none⟩,
 ⟨.tmp 18, .r (.len (.tmp 17)), none⟩,
 ⟨.tmp 19, .r (.bin .gtr (.tmp 18) (.cst (.int .i64 1024))), none⟩,
 ⟨.tmp 20, .r (.mov (.tmp 19)), none⟩,
 ⟨.tmp 21, .r (.mov (.loc 0)), some (.tmp 20, false)⟩,
 ⟨.tmp 22, .r (.mov (.loc 3)), some (.tmp 20, false)⟩,
 ⟨.tmp 23, .r (.idx 5 (.tmp 21) (.tmp 22)), some (.tmp 20, false)⟩,
 ⟨.tmp 24, .r (.off 4 (.tmp 23)), some (.tmp 20, false)⟩,
 ⟨.tmp 25, .r (.load false 1 (.tmp 24)), some (.tmp 20, false)⟩,
 ⟨.tmp 26, .r (.len (.tmp 25)), some (.tmp 20, false)⟩,
 ⟨.tmp 27, .r (.bin .gtr (.tmp 26) (.cst (.int .i64 1024))), some (.tmp 20, false)⟩,
 ⟨.loc 28, .r (.pick (.tmp 20) (.cst (.bool true)) (.tmp 27)), none⟩])
 (.cond (.loc 28) (.seq (.reg [⟨.loc 2, .r (.mov (.cst (.bool true))), none⟩])
 .ret)
 .skip)))
 (.reg [⟨.tmp 11, .r (.mov (.loc 3)), none⟩,
 ⟨.tmp 12, .r (.bin .add (.tmp 11) (.cst (.int .i64 1))), none⟩,
 ⟨.loc 3, .r (.mov (.tmp 12)), none⟩])))
/-- glebe/glebelaw04.long -/
def c_glebelaw04_long : AFn := ⟨29, fun s => List.contains [0, 2, 3, 6, 10, 28] s, (.seq (.reg [⟨.loc 2, .r (.mov (.cst (.bool false))), none⟩])
 (.seq (.seq (.reg [⟨.tmp 4, .r (.mov (.loc 0)), none⟩,
 ⟨.tmp 5, .r (.len (.tmp 4)), none⟩,
 ⟨.loc 6, .r (.bin .gtr (.tmp 5) (.cst (.int .i64 200))), none⟩])
 (.cond (.loc 6) (.seq (.reg [⟨.loc 2, .r (.mov (.cst (.bool true))), none⟩])
 .ret)
 .skip))
 (.seq (.seq (.reg [⟨.loc 3, .r (.mov (.cst (.int .i64 0))), none⟩])
 (.block 0 (.loop (c_glebelaw04_long_l0))))
 (.seq (.reg [⟨.loc 2, .r (.mov (.cst (.bool false))), none⟩])
 .ret)))), [(.tmp (.loc 2))]⟩

/-- glebe/glebelaw04.run -/
def c_glebelaw04_run (f0 f1 f2 f3 : FuncId) : AFn := ⟨31, fun s => List.contains [0, 1, 3, 4, 6, 7, 15, 19, 25] s, (.seq (.reg [⟨.loc 3, .h (.box (.loc 1)), none⟩,
 ⟨.loc 4, .r (.mov (.cst (.int .i64 0))), none⟩])
 (.seq (.seq (.reg [⟨.tmp 5, .r (.off 0 (.loc 3)), none⟩,
 ⟨.loc 6, .r (.load false 1 (.tmp 5)), none⟩])
 (.block 0 (.seq (.reg [⟨.tmp 8, .r (.bin .eql (.loc 6) (.cst (.int .i64 0))), none⟩,
 ⟨.loc 7, .r (.mov (.tmp 8)), none⟩])
 (.cond (.loc 7) (.seq (.reg [⟨.tmp 9, .r (.mov (.loc 0)), none⟩,
 ⟨.tmp 10, .r (.off 1 (.loc 3)), none⟩,
 ⟨.tmp 11, .r (.load false 1 (.tmp 10)), none⟩,
 ⟨.tmp 12, .r (.off 3 (.loc 3)), none⟩,
 ⟨.tmp 13, .r (.load false 1 (.tmp 12)), none⟩,
 ⟨.tmp 14, .call f0 [.tmp 9, .tmp 11, .tmp 13], none⟩,
 ⟨.loc 4, .r (.mov (.tmp 14)), none⟩])
 .ret)
 (.seq (.reg [⟨.tmp 16, .r (.bin .eql (.loc 6) (.cst (.int .i64 1))), none⟩,
 ⟨.loc 15, .r (.mov (.tmp 16)), none⟩])
 (.cond (.loc 15) (.seq (.reg [⟨.tmp 17, .r (.mov (.loc 0)), none⟩,
 ⟨.tmp 18, .call f1 [.tmp 17], none⟩,
 ⟨.loc 4, .r (.mov (.tmp 18)), none⟩])
 .ret)
 (.seq (.reg [⟨.tmp 20, .r (.bin .eql (.loc 6) (.cst (.int .i64 2))), none⟩,
 ⟨.loc 19, .r (.mov (.tmp 20)), none⟩])
 (.cond (.loc 19) (.reg [⟨.tmp 21, .r (.mov (.loc 0)), none⟩,
 ⟨.tmp 22, .r (.off 1 (.loc 3)), none⟩,
 ⟨.tmp 23, .r (.load false 1 (.tmp 22)), none⟩,
 ⟨.tmp 24, .call f2 [.tmp 21, .tmp 23], none⟩])
 (.seq (.reg [⟨.tmp 26, .r (.bin .eql (.loc 6) (.cst (.int .i64 3))), none⟩,
 ⟨.loc 25, .r (.mov (.tmp 26)), none⟩])
 (.cond (.loc 25) (.reg [⟨.tmp 27, .r (.mov (.loc 0)), none⟩,
 ⟨.tmp 28, .r (.off 4 (.loc 3)), none⟩,
 ⟨.tmp 29, .r (.load false 1 (.tmp 28)), none⟩,
 ⟨.tmp 30, .call f3 [.tmp 27, .tmp 29], none⟩])
 .skip))))))))))
 (.seq (.reg [⟨.loc 4, .r (.mov (.cst (.int .i64 0))), none⟩])
 .ret))), [(.tmp (.loc 4))]⟩

def c_glebelaw04_shown_l0 (f0 f1 f2 : FuncId) : AC := (.seq (.seq (.reg [⟨.tmp 7, .r (.mov (.loc 4)), none⟩,
 ⟨.tmp 8, .r (.mov (.loc 0)), none⟩,
 ⟨.tmp 9, .call f0 [.tmp 8], none⟩,
 ⟨.tmp 10, .r (.bin .lss (.tmp 7) (.tmp 9)), none⟩,
 ⟨.tmp 11, .r (.mov (.tmp 10)), none⟩,
 ⟨.tmp 12, .r (.mov (.loc 4)), some (.tmp 11, true)⟩,
 ⟨.tmp 13, .r (.bin .lss (.tmp 12) (.cst (.int .i64 64))), some (.tmp 11, true)⟩,
 ⟨.loc 14, .r (.pick (.tmp 11) (.tmp 13) (.cst (.bool false))), none⟩])
 (.cond (.loc 14) .skip
 (.exit 0)))
 (.seq (.block 1 (.seq (.reg [⟨.tmp 18, .r (.mov (.loc 0)), none⟩,
 ⟨.tmp 19, .r (.mov (.loc 4)), none⟩,
 ⟨.tmp 20, .call f1 [.tmp 18, .tmp 19], none⟩,
 ⟨.tmp 17, .r (.mov (.tmp 20)), none⟩,
 ⟨.tmp 21, .r (.ext (.tmp 17) 0), none⟩,
 ⟨.tmp 22, .r (.ext (.tmp 17) 1), none⟩,
 ⟨.loc 5, .r (.mov (.tmp 21)), none⟩,
 ⟨.loc 6, .r (.mov (.tmp 22)), none⟩])
 (.seq (.seq (.reg [⟨.tmp 23, .r (.mov (.loc 6)), none⟩,
 ⟨.loc 24, .r (.bin .neq (.tmp 23) (.cst (.int .i64 0))), none⟩])
 (.cond (.loc 24) (.reg [⟨.tmp 25, .call f2 [(.cst (.int .i64 65))], none⟩,
 ⟨.loc 5, .r (.mov (.tmp 25)), none⟩])
 .skip))
 (.reg [⟨.tmp 26, .r (.mov (.loc 3)), none⟩,
 ⟨.tmp 27, .r (.mov (.loc 5)), none⟩,
 ⟨.tmp 28, .h (.bsl 1 [.tmp 27]), none⟩,
 ⟨.tmp 29, .h (.app 1 24 (.tmp 26) (.tmp 28)), none⟩,
 ⟨.loc 3, .r (.mov (.tmp 29)), none⟩]))))
 (.reg [⟨.tmp 15, .r (.mov (.loc 4)), none⟩,
 ⟨.tmp 16, .r (.bin .add (.tmp 15) (.cst (.int .i64 1))), none⟩,
 ⟨.loc 4, .r (.mov (.tmp 16)), none⟩])))
/-- glebe/glebelaw04.shown -/
def c_glebelaw04_shown (f0 f1 f2 : FuncId) : AFn := ⟨31, fun s => List.contains [0, 2, 3, 4, 5, 6, 14, 24] s, (.seq (.reg [⟨.loc 2, .r (.mov (.cst .nils)), none⟩])
 (.seq (.reg [⟨.loc 3, .r (.mov (.cst .nils)), none⟩])
 (.seq (.seq (.reg [⟨.loc 4, .r (.mov (.cst (.int .i64 0))), none⟩])
 (.block 0 (.loop (c_glebelaw04_shown_l0 f0 f1 f2))))
 (.seq (.reg [⟨.tmp 30, .r (.mov (.loc 3)), none⟩,
 ⟨.loc 2, .r (.mov (.tmp 30)), none⟩])
 .ret)))), [(.tmp (.loc 2))]⟩

end Glb
