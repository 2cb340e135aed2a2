/-
  What functions of the program are, one by one (the functions that they call as parameters), in a form of which something can be shown.
-/
import Derived.Test.YtifkpnagloijkaaGlbLibB
set_option linter.unusedSimpArgs false
set_option linter.unusedVariables false
namespace Glb
open Go
set_option maxRecDepth 100000

def c_glebelaw04_SectorRuns_l0 (f0 f1 f2 f3 f4 f5 f6 : FuncId) : AC := (.seq (.seq (.reg [⟨.tmp 40, .r (.mov (.loc 9)), none⟩,
 ⟨.tmp 41, .r (.mov (.loc 1)), none⟩,
 ⟨.tmp 42, .r (.len (.tmp 41)), none⟩,
 ⟨.loc 43, .r (.bin .lss (.tmp 40) (.tmp 42)), none⟩])
 (.cond (.loc 43) .skip
 (.exit 0)))
 (.seq (.block 1 (.seq (.reg [⟨.tmp 46, .r (.mov (.loc 5)), none⟩,
 ⟨.tmp 47, .r (.mov (.loc 7)), none⟩,
 ⟨.tmp 48, .r (.mov (.loc 1)), none⟩,
 ⟨.tmp 49, .r (.mov (.loc 9)), none⟩,
 ⟨.tmp 50, .r (.idx 5 (.tmp 48) (.tmp 49)), none⟩,
 ⟨.tmp 51, .r (.load true 5 (.tmp 50)), none⟩,
 ⟨.tmp 52, .call f4 [.tmp 46, .tmp 47, .tmp 51], none⟩,
 ⟨.tmp 53, .r (.not (.tmp 52)), none⟩,
 ⟨.tmp 54, .r (.mov (.tmp 53)), none⟩,
 ⟨.tmp 55, .r (.mov (.loc 5)), some (.tmp 54, false)⟩,
 ⟨.tmp 56, .r (.mov (.loc 7)), some (.tmp 54, false)⟩,
 ⟨.tmp 57, .r (.mov (.loc 1)), some (.tmp 54, false)⟩,
 ⟨.tmp 58, .r (.mov (.loc 9)), some (.tmp 54, false)⟩,
 ⟨.tmp 59, .r (.idx 5 (.tmp 57) (.tmp 58)), some (.tmp 54, false)⟩,
 ⟨.tmp 60, .r (.off 2 (.tmp 59)), some (.tmp 54, false)⟩,
 ⟨.tmp 61, .r (.load false 1 (.tmp 60)), some (.tmp 54, false)⟩,
 ⟨.tmp 62, .call f5 [.tmp 55, .tmp 56, .tmp 61], some (.tmp 54, false)⟩,
 ⟨.tmp 63, .r (.not (.tmp 62)), some (.tmp 54, false)⟩,
 ⟨.tmp 64, .r (.pick (.tmp 54) (.cst (.bool true)) (.tmp 63)), none⟩,
 ⟨.tmp 65, .r (.mov (.tmp 64)), none⟩,
 ⟨.tmp 66, .r (.mov (.loc 5)), some (.tmp 65, false)⟩,
 ⟨.tmp 67, .r (.mov (.loc 7)), some (.tmp 65, false)⟩,
 ⟨.tmp 68, .r (.mov (.loc 1)), some (.tmp 65, false)⟩,
 ⟨.tmp 69, .r (.mov (.loc 9)), some (.tmp 65, false)⟩,
 ⟨.tmp 70, .r (.idx 5 (.tmp 68) (.tmp 69)), some (.tmp 65, false)⟩,
 ⟨.tmp 71, .r (.off 1 (.tmp 70)), some (.tmp 65, false)⟩,
 ⟨.tmp 72, .r (.load false 1 (.tmp 71)), some (.tmp 65, false)⟩,
 ⟨.tmp 73, .call f5 [.tmp 66, .tmp 67, .tmp 72], some (.tmp 65, false)⟩,
 ⟨.tmp 74, .r (.not (.tmp 73)), some (.tmp 65, false)⟩,
 ⟨.loc 75, .r (.pick (.tmp 65) (.cst (.bool true)) (.tmp 74)), none⟩])
 (.cond (.loc 75) (.seq (.reg [⟨.loc 4, .r (.mov (.cst (.bool false))), none⟩])
 .ret)
 .skip)))
 (.reg [⟨.tmp 44, .r (.mov (.loc 9)), none⟩,
 ⟨.tmp 45, .r (.bin .add (.tmp 44) (.cst (.int .i64 1))), none⟩,
 ⟨.loc 9, .r (.mov (.tmp 45)), none⟩])))
/-- glebe/glebelaw04.SectorRuns -/
def c_glebelaw04_SectorRuns (f0 f1 f2 f3 f4 f5 f6 : FuncId) : AFn := ⟨82, fun s => List.contains [0, 1, 4, 5, 6, 7, 8, 9, 11, 29, 43, 75] s, (.seq (.reg [⟨.loc 4, .r (.mov (.cst (.bool false))), none⟩])
 (.seq (.seq (.reg [⟨.tmp 10, .r (.mov (.loc 1)), none⟩,
 ⟨.loc 11, .call f0 [.tmp 10], none⟩])
 (.cond (.loc 11) (.seq (.reg [⟨.tmp 12, .call f1 [], none⟩,
 ⟨.loc 4, .r (.mov (.tmp 12)), none⟩])
 .ret)
 .skip))
 (.seq (.reg [⟨.tmp 14, .r (.mov (.loc 0)), none⟩,
 ⟨.tmp 15, .call f2 [.tmp 14], none⟩,
 ⟨.tmp 13, .r (.mov (.tmp 15)), none⟩,
 ⟨.tmp 16, .r (.ext (.tmp 13) 0), none⟩,
 ⟨.tmp 17, .r (.ext (.tmp 13) 1), none⟩,
 ⟨.loc 5, .r (.mov (.tmp 16)), none⟩,
 ⟨.loc 6, .r (.mov (.tmp 17)), none⟩])
 (.seq (.reg [⟨.tmp 19, .r (.mov (.loc 0)), none⟩,
 ⟨.tmp 20, .call f3 [.tmp 19], none⟩,
 ⟨.tmp 18, .r (.mov (.tmp 20)), none⟩,
 ⟨.tmp 21, .r (.ext (.tmp 18) 0), none⟩,
 ⟨.tmp 22, .r (.ext (.tmp 18) 1), none⟩,
 ⟨.loc 7, .r (.mov (.tmp 21)), none⟩,
 ⟨.loc 8, .r (.mov (.tmp 22)), none⟩])
 (.seq (.seq (.reg [⟨.tmp 23, .r (.mov (.loc 6)), none⟩,
 ⟨.tmp 24, .r (.mov (.loc 8)), none⟩,
 ⟨.tmp 25, .r (.bin .neq (.tmp 23) (.tmp 24)), none⟩,
 ⟨.tmp 26, .r (.mov (.tmp 25)), none⟩,
 ⟨.tmp 27, .r (.mov (.loc 6)), some (.tmp 26, false)⟩,
 ⟨.tmp 28, .r (.bin .neq (.tmp 27) (.cst (.int .i64 0))), some (.tmp 26, false)⟩,
 ⟨.loc 29, .r (.pick (.tmp 26) (.cst (.bool true)) (.tmp 28)), none⟩])
 (.cond (.loc 29) (.seq (.reg [⟨.tmp 30, .r (.mov (.loc 6)), none⟩,
 ⟨.tmp 31, .r (.mov (.loc 8)), none⟩,
 ⟨.tmp 32, .r (.bin .eql (.tmp 30) (.tmp 31)), none⟩,
 ⟨.tmp 33, .r (.mov (.tmp 32)), none⟩,
 ⟨.tmp 34, .r (.mov (.loc 5)), some (.tmp 33, true)⟩,
 ⟨.tmp 35, .r (.x (.peq false (.tmp 34))), some (.tmp 33, true)⟩,
 ⟨.tmp 36, .r (.pick (.tmp 33) (.tmp 35) (.cst (.bool false))), none⟩,
 ⟨.tmp 37, .r (.mov (.tmp 36)), none⟩,
 ⟨.tmp 38, .call f1 [], some (.tmp 37, true)⟩,
 ⟨.tmp 39, .r (.pick (.tmp 37) (.tmp 38) (.cst (.bool false))), none⟩,
 ⟨.loc 4, .r (.mov (.tmp 39)), none⟩])
 .ret)
 .skip))
 (.seq (.seq (.reg [⟨.loc 9, .r (.mov (.cst (.int .i64 0))), none⟩])
 (.block 0 (.loop (c_glebelaw04_SectorRuns_l0 f0 f1 f2 f3 f4 f5 f6))))
 (.seq (.reg [⟨.tmp 76, .r (.mov (.loc 5)), none⟩,
 ⟨.tmp 77, .r (.mov (.loc 7)), none⟩,
 ⟨.tmp 78, .call f6 [.tmp 76, .tmp 77], none⟩,
 ⟨.tmp 79, .r (.mov (.tmp 78)), none⟩,
 ⟨.tmp 80, .call f1 [], some (.tmp 79, true)⟩,
 ⟨.tmp 81, .r (.pick (.tmp 79) (.tmp 80) (.cst (.bool false))), none⟩,
 ⟨.loc 4, .r (.mov (.tmp 81)), none⟩])
 .ret))))))), [(.tmp (.loc 4))]⟩

/-- glebe/glebelaw04.works -/
def c_glebelaw04_works (f0 f1 f2 f3 f4 f5 f6 : FuncId) : AFn := ⟨78, fun s => List.contains [0, 1, 2, 3, 4, 5, 6, 8, 9, 10, 20] s, (.seq (.reg [⟨.loc 0, .r (.mov (.cst (.bool false))), none⟩])
 (.seq (.reg [⟨.tmp 12, .call f0 [(.cst (.int .i64 4))], none⟩,
 ⟨.tmp 11, .r (.mov (.tmp 12)), none⟩,
 ⟨.tmp 13, .r (.ext (.tmp 11) 0), none⟩,
 ⟨.tmp 14, .r (.ext (.tmp 11) 1), none⟩,
 ⟨.loc 1, .r (.mov (.tmp 13)), none⟩,
 ⟨.loc 2, .r (.mov (.tmp 14)), none⟩])
 (.seq (.seq (.reg [⟨.tmp 15, .r (.mov (.loc 2)), none⟩,
 ⟨.tmp 16, .r (.bin .neq (.tmp 15) (.cst (.int .i64 0))), none⟩,
 ⟨.tmp 17, .r (.mov (.tmp 16)), none⟩,
 ⟨.tmp 18, .r (.mov (.loc 1)), some (.tmp 17, false)⟩,
 ⟨.tmp 19, .r (.x (.peq false (.tmp 18))), some (.tmp 17, false)⟩,
 ⟨.loc 20, .r (.pick (.tmp 17) (.cst (.bool true)) (.tmp 19)), none⟩])
 (.cond (.loc 20) (.seq (.reg [⟨.loc 0, .r (.mov (.cst (.bool false))), none⟩])
 .ret)
 .skip))
 (.seq (.reg [⟨.tmp 21, .r (.mov (.loc 1)), none⟩,
 ⟨.tmp 22, .h (.bsl 1 [(.cst (.int .u8 7))]), none⟩,
 ⟨.tmp 23, .call f1 [.tmp 21, (.cst (.int .i64 1)), .tmp 22], none⟩,
 ⟨.loc 3, .r (.mov (.tmp 23)), none⟩])
 (.seq (.reg [⟨.tmp 24, .r (.mov (.loc 1)), none⟩,
 ⟨.tmp 25, .call f2 [.tmp 24], none⟩,
 ⟨.loc 4, .r (.mov (.tmp 25)), none⟩])
 (.seq (.reg [⟨.tmp 26, .r (.mov (.loc 1)), none⟩,
 ⟨.tmp 27, .h (.bsl 1 [(.cst (.int .u8 8))]), none⟩,
 ⟨.tmp 28, .call f1 [.tmp 26, (.cst (.int .i64 1)), .tmp 27], none⟩,
 ⟨.loc 5, .r (.mov (.tmp 28)), none⟩])
 (.seq (.reg [⟨.tmp 29, .r (.mov (.loc 1)), none⟩,
 ⟨.tmp 30, .h (.bsl 1 [(.cst (.int .u8 9))]), none⟩,
 ⟨.tmp 31, .call f1 [.tmp 29, (.cst (.int .i64 2)), .tmp 30], none⟩,
 ⟨.loc 6, .r (.mov (.tmp 31)), none⟩])
 (.seq (.reg [⟨.tmp 32, .r (.mov (.loc 1)), none⟩,
 ⟨.tmp 33, .h (.bsl 1 [(.cst (.int .i64 2)), (.cst (.int .i64 1))]), none⟩,
 ⟨.tmp 34, .call f3 [.tmp 32, .tmp 33], none⟩])
 (.seq (.reg [⟨.tmp 36, .r (.mov (.loc 1)), none⟩,
 ⟨.tmp 37, .call f4 [.tmp 36, (.cst (.int .i64 1))], none⟩,
 ⟨.tmp 35, .r (.mov (.tmp 37)), none⟩,
 ⟨.tmp 38, .r (.ext (.tmp 35) 0), none⟩,
 ⟨.tmp 39, .r (.ext (.tmp 35) 1), none⟩,
 ⟨.tmp 7, .r (.mov (.tmp 38)), none⟩,
 ⟨.loc 8, .r (.mov (.tmp 39)), none⟩])
 (.seq (.reg [⟨.tmp 41, .r (.mov (.loc 1)), none⟩,
 ⟨.tmp 42, .call f4 [.tmp 41, (.cst (.int .i64 2))], none⟩,
 ⟨.tmp 40, .r (.mov (.tmp 42)), none⟩,
 ⟨.tmp 43, .r (.ext (.tmp 40) 0), none⟩,
 ⟨.tmp 44, .r (.ext (.tmp 40) 1), none⟩,
 ⟨.loc 9, .r (.mov (.tmp 43)), none⟩,
 ⟨.loc 10, .r (.mov (.tmp 44)), none⟩])
 (.seq (.reg [⟨.tmp 45, .r (.mov (.loc 3)), none⟩,
 ⟨.tmp 46, .r (.bin .eql (.tmp 45) (.cst (.int .i64 0))), none⟩,
 ⟨.tmp 47, .r (.mov (.tmp 46)), none⟩,
 ⟨.tmp 48, .r (.mov (.loc 4)), some (.tmp 47, true)⟩,
 ⟨.tmp 49, .r (.bin .eql (.tmp 48) (.cst (.int .i64 0))), some (.tmp 47, true)⟩,
 ⟨.tmp 50, .r (.pick (.tmp 47) (.tmp 49) (.cst (.bool false))), none⟩,
 ⟨.tmp 51, .r (.mov (.tmp 50)), none⟩,
 ⟨.tmp 52, .r (.mov (.loc 5)), some (.tmp 51, true)⟩,
 ⟨.tmp 53, .r (.bin .eql (.tmp 52) (.cst (.int .i64 0))), some (.tmp 51, true)⟩,
 ⟨.tmp 54, .r (.pick (.tmp 51) (.tmp 53) (.cst (.bool false))), none⟩,
 ⟨.tmp 55, .r (.mov (.tmp 54)), none⟩,
 ⟨.tmp 56, .r (.mov (.loc 6)), some (.tmp 55, true)⟩,
 ⟨.tmp 57, .r (.bin .eql (.tmp 56) (.cst (.int .i64 0))), some (.tmp 55, true)⟩,
 ⟨.tmp 58, .r (.pick (.tmp 55) (.tmp 57) (.cst (.bool false))), none⟩,
 ⟨.tmp 59, .r (.mov (.tmp 58)), none⟩,
 ⟨.tmp 60, .r (.mov (.loc 8)), some (.tmp 59, true)⟩,
 ⟨.tmp 61, .r (.bin .eql (.tmp 60) (.cst (.int .i64 9))), some (.tmp 59, true)⟩,
 ⟨.tmp 62, .r (.pick (.tmp 59) (.tmp 61) (.cst (.bool false))), none⟩,
 ⟨.tmp 63, .r (.mov (.tmp 62)), none⟩,
 ⟨.tmp 64, .r (.mov (.loc 10)), some (.tmp 63, true)⟩,
 ⟨.tmp 65, .r (.bin .eql (.tmp 64) (.cst (.int .i64 0))), some (.tmp 63, true)⟩,
 ⟨.tmp 66, .r (.pick (.tmp 63) (.tmp 65) (.cst (.bool false))), none⟩,
 ⟨.tmp 67, .r (.mov (.tmp 66)), none⟩,
 ⟨.tmp 68, .r (.mov (.loc 9)), some (.tmp 67, true)⟩,
 ⟨.tmp 69, .h (.bsl 1 [(.cst (.int .u8 9))]), some (.tmp 67, true)⟩,
 ⟨.tmp 70, .call f5 [.tmp 68, .tmp 69], some (.tmp 67, true)⟩,
 ⟨.tmp 71, .r (.pick (.tmp 67) (.tmp 70) (.cst (.bool false))), none⟩,
 ⟨.tmp 72, .r (.mov (.tmp 71)), none⟩,
 ⟨.tmp 73, .r (.mov (.loc 1)), some (.tmp 72, true)⟩,
 ⟨.tmp 74, .call f6 [.tmp 73], some (.tmp 72, true)⟩,
 ⟨.tmp 75, .r (.len (.tmp 74)), some (.tmp 72, true)⟩,
 ⟨.tmp 76, .r (.bin .eql (.tmp 75) (.cst (.int .i64 0))), some (.tmp 72, true)⟩,
 ⟨.tmp 77, .r (.pick (.tmp 72) (.tmp 76) (.cst (.bool false))), none⟩,
 ⟨.loc 0, .r (.mov (.tmp 77)), none⟩])
 .ret))))))))))), [(.tmp (.loc 0))]⟩

def c_glebelaw04_long_l0 : AC := (.seq (.seq (.reg [⟨.tmp 7, .r (.mov (.loc 3)), none⟩,
 ⟨.tmp 8, .r (.mov (.loc 0)), none⟩,
 ⟨.tmp 9, .r (.len (.tmp 8)), none⟩,
 ⟨.loc 10, .r (.bin .lss (.tmp 7) (.tmp 9)), none⟩])
 (.cond (.loc 10) .skip
 (.exit 0)))
 (.seq (.block 1 (.seq (.reg [⟨.tmp 13, .r (.mov (.loc 0)), none⟩,
 ⟨.tmp 14, .r (.mov (.loc 3)), none⟩,
 ⟨.tmp 15, .r (.idx 5 (.tmp 13) (.tmp 14)), none⟩,
 ⟨.tmp 16, .r (.off 3 (.tmp 15)), none⟩,
 ⟨.tmp 17, .r (.load false 1 (.tmp 16)), none⟩,
 ⟨.tmp 18, .r (.len (.tmp 17)), none⟩,
 ⟨.tmp 19, .r (.bin .gtr (.tmp 18) (.cst (.int .i64 1024))), none⟩,
 ⟨.tmp 20, .r (.mov (.tmp 19)), none⟩,
 ⟨.tmp 21, .r (.mov (.loc 0)), some (.tmp 20, false)⟩,
 ⟨.tmp 22, .r (.mov (.loc 3)), some (.tmp 20, false)⟩,
 ⟨.tmp 23, .r (.idx 5 (.tmp 21) (.tmp 22)), some (.tmp 20, false)⟩,
 ⟨.tmp 24, .r (.off 4 (.tmp 23)), some (.tmp 20, false)⟩,
 ⟨.tmp 25, .r (.load false 1 (.tmp 24)), some (.tmp 20, false)⟩,
 ⟨.tmp 26, .r (.len (.tmp 25)), some (.tmp 20, false)⟩,
 ⟨.tmp 27, .r (.bin .gtr (.tmp 26) (.cst (.int .i64 1024))), some (.tmp 20, false)⟩,
 ⟨.loc 28, .r (.pick (.tmp 20) (.cst (.bool true)) (.tmp 27)), none⟩])
 (.cond (.loc 28) (.seq (.reg [⟨.loc 2, .r (.mov (.cst (.bool true))), none⟩])
 .ret)
 .skip)))
 (.reg [⟨.tmp 11, .r (.mov (.loc 3)), none⟩,
 ⟨.tmp 12, .r (.bin .add (.tmp 11) (.cst (.int .i64 1))), none⟩,
 ⟨.loc 3, .r (.mov (.tmp 12)), none⟩])))
/-- glebe/glebelaw04.long -/
def c_glebelaw04_long : AFn := ⟨29, fun s => List.contains [0, 2, 3, 6, 10, 28] s, (.seq (.reg [⟨.loc 2, .r (.mov (.cst (.bool false))), none⟩])
 (.seq (.seq (.reg [⟨.tmp 4, .r (.mov (.loc 0)), none⟩,
 ⟨.tmp 5, .r (.len (.tmp 4)), none⟩,
 ⟨.loc 6, .r (.bin .gtr (.tmp 5) (.cst (.int .i64 200))), none⟩])
 (.cond (.loc 6) (.seq (.reg [⟨.loc 2, .r (.mov (.cst (.bool true))), none⟩])
 .ret)
 .skip))
 (.seq (.seq (.reg [⟨.loc 3, .r (.mov (.cst (.int .i64 0))), none⟩])
 (.block 0 (.loop (c_glebelaw04_long_l0))))
 (.seq (.reg [⟨.loc 2, .r (.mov (.cst (.bool false))), none⟩])
 .ret)))), [(.tmp (.loc 2))]⟩

/-- glebe/glebelaw04.both -/
def c_glebelaw04_both (f0 f1 f2 f3 f4 f5 f6 f7 f8 f9 f10 f11 f12 : FuncId) : AFn := ⟨80, fun s => List.contains [0, 1, 2, 5, 6, 7, 8, 9, 11, 12, 40, 43, 50, 60] s, (.seq (.reg [⟨.loc 5, .h (.box (.loc 2)), none⟩,
 ⟨.loc 6, .r (.mov (.cst (.bool false))), none⟩])
 (.seq (.seq (.reg [⟨.tmp 10, .r (.off 0 (.loc 5)), none⟩,
 ⟨.loc 11, .r (.load false 1 (.tmp 10)), none⟩])
 (.block 0 (.seq (.reg [⟨.tmp 13, .r (.bin .eql (.loc 11) (.cst (.int .i64 0))), none⟩,
 ⟨.loc 12, .r (.mov (.tmp 13)), none⟩])
 (.cond (.loc 12) (.seq (.reg [⟨.tmp 14, .r (.off 3 (.loc 5)), none⟩,
 ⟨.tmp 15, .r (.load false 1 (.tmp 14)), none⟩,
 ⟨.tmp 16, .call f0 [.tmp 15], none⟩,
 ⟨.loc 7, .r (.mov (.tmp 16)), none⟩])
 (.seq (.dreg ⟨[0, 0, 2, 0, 0, 16, 48, 120, 255, 511], 0, [⟨0, 0, false, .r (.mov (.loc 0)), none⟩,
 ⟨1, 0, false, .r (.off 1 (.loc 5)), none⟩,
 ⟨2, 0, false, .r (.load false 1 (.tmp 1)), none⟩,
 ⟨3, 0, false, .r (.mov (.loc 7)), none⟩,
 ⟨4, 0, false, .r (.off 3 (.loc 5)), none⟩,
 ⟨5, 0, false, .r (.load false 1 (.tmp 4)), none⟩,
 ⟨6, 0, false, .r (.len (.tmp 5)), none⟩,
 ⟨7, 0, false, .r (.slc 1 (.tmp 3) none (some (.tmp 6)) none), none⟩,
 ⟨8, 0, true, .call f1 [.tmp 0, .tmp 2, .tmp 7], none⟩,
 ⟨9, 0, false, .r (.mov (.tmp 8)), none⟩], [(8, 9)]⟩)
 (.seq (.seq (.reg [⟨.tmp 26, .r (.mov (.loc 8)), none⟩,
 ⟨.tmp 27, .r (.mov (.loc 1)), none⟩,
 ⟨.tmp 28, .r (.off 1 (.loc 5)), none⟩,
 ⟨.tmp 29, .r (.load false 1 (.tmp 28)), none⟩,
 ⟨.tmp 30, .r (.off 3 (.loc 5)), none⟩,
 ⟨.tmp 31, .r (.load false 1 (.tmp 30)), none⟩,
 ⟨.tmp 32, .call f2 [.tmp 27, .tmp 29, .tmp 31], none⟩,
 ⟨.tmp 33, .r (.bin .neq (.tmp 26) (.tmp 32)), none⟩,
 ⟨.tmp 34, .r (.mov (.tmp 33)), none⟩,
 ⟨.tmp 35, .r (.mov (.loc 7)), some (.tmp 34, false)⟩,
 ⟨.tmp 36, .r (.off 3 (.loc 5)), some (.tmp 34, false)⟩,
 ⟨.tmp 37, .r (.load false 1 (.tmp 36)), some (.tmp 34, false)⟩,
 ⟨.tmp 38, .call f3 [.tmp 35, .tmp 37], some (.tmp 34, false)⟩,
 ⟨.tmp 39, .r (.not (.tmp 38)), some (.tmp 34, false)⟩,
 ⟨.loc 40, .r (.pick (.tmp 34) (.cst (.bool true)) (.tmp 39)), none⟩])
 (.cond (.loc 40) (.seq (.reg [⟨.loc 6, .r (.mov (.cst (.bool false))), none⟩])
 .ret)
 .skip))
 (.reg [⟨.tmp 41, .r (.mov (.loc 7)), none⟩,
 ⟨.tmp 42, .call f4 [.tmp 41], none⟩]))))
 (.seq (.reg [⟨.tmp 44, .r (.bin .eql (.loc 11) (.cst (.int .i64 1))), none⟩,
 ⟨.loc 43, .r (.mov (.tmp 44)), none⟩])
 (.cond (.loc 43) (.seq (.reg [⟨.tmp 45, .r (.mov (.loc 0)), none⟩,
 ⟨.tmp 46, .call f5 [.tmp 45], none⟩,
 ⟨.tmp 47, .r (.mov (.loc 1)), none⟩,
 ⟨.tmp 48, .call f6 [.tmp 47], none⟩,
 ⟨.tmp 49, .r (.bin .eql (.tmp 46) (.tmp 48)), none⟩,
 ⟨.loc 6, .r (.mov (.tmp 49)), none⟩])
 .ret)
 (.seq (.reg [⟨.tmp 51, .r (.bin .eql (.loc 11) (.cst (.int .i64 2))), none⟩,
 ⟨.loc 50, .r (.mov (.tmp 51)), none⟩])
 (.cond (.loc 50) (.seq (.reg [⟨.tmp 52, .r (.mov (.loc 0)), none⟩,
 ⟨.tmp 53, .r (.off 1 (.loc 5)), none⟩,
 ⟨.tmp 54, .r (.load false 1 (.tmp 53)), none⟩,
 ⟨.tmp 55, .call f7 [.tmp 52, .tmp 54], none⟩])
 (.reg [⟨.tmp 56, .r (.mov (.loc 1)), none⟩,
 ⟨.tmp 57, .r (.off 1 (.loc 5)), none⟩,
 ⟨.tmp 58, .r (.load false 1 (.tmp 57)), none⟩,
 ⟨.tmp 59, .call f8 [.tmp 56, .tmp 58], none⟩]))
 (.seq (.reg [⟨.tmp 61, .r (.bin .eql (.loc 11) (.cst (.int .i64 3))), none⟩,
 ⟨.loc 60, .r (.mov (.tmp 61)), none⟩])
 (.cond (.loc 60) (.seq (.reg [⟨.tmp 62, .r (.off 4 (.loc 5)), none⟩,
 ⟨.tmp 63, .r (.load false 1 (.tmp 62)), none⟩,
 ⟨.tmp 64, .call f9 [.tmp 63], none⟩,
 ⟨.loc 9, .r (.mov (.tmp 64)), none⟩])
 (.seq (.reg [⟨.tmp 65, .r (.mov (.loc 0)), none⟩,
 ⟨.tmp 66, .r (.mov (.loc 9)), none⟩,
 ⟨.tmp 67, .r (.off 4 (.loc 5)), none⟩,
 ⟨.tmp 68, .r (.load false 1 (.tmp 67)), none⟩,
 ⟨.tmp 69, .r (.len (.tmp 68)), none⟩,
 ⟨.tmp 70, .r (.slc 1 (.tmp 66) none (some (.tmp 69)) none), none⟩,
 ⟨.tmp 71, .call f10 [.tmp 65, .tmp 70], none⟩])
 (.seq (.reg [⟨.tmp 72, .r (.mov (.loc 1)), none⟩,
 ⟨.tmp 73, .r (.off 4 (.loc 5)), none⟩,
 ⟨.tmp 74, .r (.load false 1 (.tmp 73)), none⟩,
 ⟨.tmp 75, .call f11 [.tmp 72, .tmp 74], none⟩])
 (.seq (.reg [⟨.tmp 76, .r (.mov (.loc 9)), none⟩,
 ⟨.tmp 77, .r (.off 4 (.loc 5)), none⟩,
 ⟨.tmp 78, .r (.load false 1 (.tmp 77)), none⟩,
 ⟨.tmp 79, .call f12 [.tmp 76, .tmp 78], none⟩,
 ⟨.loc 6, .r (.mov (.tmp 79)), none⟩])
 .ret))))
 .skip))))))))))
 (.seq (.reg [⟨.loc 6, .r (.mov (.cst (.bool true))), none⟩])
 .ret))), [(.tmp (.loc 6))]⟩

/-- glebe/glebelaw04.Looks -/
def c_glebelaw04_Looks (f0 f1 f2 f3 f4 f5 f6 f7 f8 f9 : FuncId) : AFn := ⟨93, fun s => List.contains [0, 1, 2, 6, 7, 8, 9, 10, 11, 12, 13, 14, 52, 68] s, (.seq (.reg [⟨.loc 6, .r (.mov (.cst (.bool false))), none⟩])
 (.seq (.reg [⟨.tmp 16, .r (.mov (.loc 0)), none⟩,
 ⟨.tmp 17, .r (.mov (.loc 2)), none⟩,
 ⟨.tmp 18, .call f0 [.tmp 16, .tmp 17], none⟩,
 ⟨.tmp 15, .r (.mov (.tmp 18)), none⟩,
 ⟨.tmp 19, .r (.ext (.tmp 15) 0), none⟩,
 ⟨.tmp 20, .r (.ext (.tmp 15) 1), none⟩,
 ⟨.loc 7, .r (.mov (.tmp 19)), none⟩,
 ⟨.loc 8, .r (.mov (.tmp 20)), none⟩])
 (.seq (.reg [⟨.tmp 22, .r (.mov (.loc 0)), none⟩,
 ⟨.tmp 23, .r (.mov (.loc 2)), none⟩,
 ⟨.tmp 24, .call f0 [.tmp 22, .tmp 23], none⟩,
 ⟨.tmp 21, .r (.mov (.tmp 24)), none⟩,
 ⟨.tmp 25, .r (.ext (.tmp 21) 0), none⟩,
 ⟨.tmp 26, .r (.ext (.tmp 21) 1), none⟩,
 ⟨.loc 9, .r (.mov (.tmp 25)), none⟩,
 ⟨.loc 10, .r (.mov (.tmp 26)), none⟩])
 (.seq (.reg [⟨.tmp 28, .r (.mov (.loc 1)), none⟩,
 ⟨.tmp 29, .r (.mov (.loc 2)), none⟩,
 ⟨.tmp 30, .call f1 [.tmp 28, .tmp 29], none⟩,
 ⟨.tmp 27, .r (.mov (.tmp 30)), none⟩,
 ⟨.tmp 31, .r (.ext (.tmp 27) 0), none⟩,
 ⟨.tmp 32, .r (.ext (.tmp 27) 1), none⟩,
 ⟨.loc 11, .r (.mov (.tmp 31)), none⟩,
 ⟨.loc 12, .r (.mov (.tmp 32)), none⟩])
 (.seq (.seq (.reg [⟨.tmp 33, .r (.mov (.loc 8)), none⟩,
 ⟨.tmp 34, .r (.mov (.loc 12)), none⟩,
 ⟨.tmp 35, .r (.bin .neq (.tmp 33) (.tmp 34)), none⟩,
 ⟨.tmp 36, .r (.mov (.tmp 35)), none⟩,
 ⟨.tmp 37, .r (.mov (.loc 10)), some (.tmp 36, false)⟩,
 ⟨.tmp 38, .r (.mov (.loc 12)), some (.tmp 36, false)⟩,
 ⟨.tmp 39, .r (.bin .neq (.tmp 37) (.tmp 38)), some (.tmp 36, false)⟩,
 ⟨.tmp 40, .r (.pick (.tmp 36) (.cst (.bool true)) (.tmp 39)), none⟩,
 ⟨.tmp 41, .r (.mov (.tmp 40)), none⟩,
 ⟨.tmp 42, .r (.mov (.loc 7)), some (.tmp 41, false)⟩,
 ⟨.tmp 43, .r (.mov (.loc 11)), some (.tmp 41, false)⟩,
 ⟨.tmp 44, .call f2 [.tmp 42, .tmp 43], some (.tmp 41, false)⟩,
 ⟨.tmp 45, .r (.not (.tmp 44)), some (.tmp 41, false)⟩,
 ⟨.tmp 46, .r (.pick (.tmp 41) (.cst (.bool true)) (.tmp 45)), none⟩,
 ⟨.tmp 47, .r (.mov (.tmp 46)), none⟩,
 ⟨.tmp 48, .r (.mov (.loc 9)), some (.tmp 47, false)⟩,
 ⟨.tmp 49, .r (.mov (.loc 11)), some (.tmp 47, false)⟩,
 ⟨.tmp 50, .call f2 [.tmp 48, .tmp 49], some (.tmp 47, false)⟩,
 ⟨.tmp 51, .r (.not (.tmp 50)), some (.tmp 47, false)⟩,
 ⟨.loc 52, .r (.pick (.tmp 47) (.cst (.bool true)) (.tmp 51)), none⟩])
 (.cond (.loc 52) (.seq (.reg [⟨.loc 6, .r (.mov (.cst (.bool false))), none⟩])
 .ret)
 .skip))
 (.seq (.reg [⟨.tmp 53, .r (.mov (.loc 7)), none⟩,
 ⟨.tmp 54, .call f3 [.tmp 53], none⟩])
 (.seq (.reg [⟨.tmp 55, .r (.mov (.loc 0)), none⟩,
 ⟨.tmp 56, .call f4 [.tmp 55], none⟩,
 ⟨.loc 13, .r (.mov (.tmp 56)), none⟩])
 (.seq (.reg [⟨.tmp 57, .r (.mov (.loc 1)), none⟩,
 ⟨.tmp 58, .call f5 [.tmp 57], none⟩,
 ⟨.loc 14, .r (.mov (.tmp 58)), none⟩])
 (.seq (.seq (.reg [⟨.tmp 59, .r (.mov (.loc 9)), none⟩,
 ⟨.tmp 60, .r (.mov (.loc 11)), none⟩,
 ⟨.tmp 61, .call f2 [.tmp 59, .tmp 60], none⟩,
 ⟨.tmp 62, .r (.not (.tmp 61)), none⟩,
 ⟨.tmp 63, .r (.mov (.tmp 62)), none⟩,
 ⟨.tmp 64, .r (.mov (.loc 13)), some (.tmp 63, false)⟩,
 ⟨.tmp 65, .r (.mov (.loc 14)), some (.tmp 63, false)⟩,
 ⟨.tmp 66, .call f6 [.tmp 64, .tmp 65], some (.tmp 63, false)⟩,
 ⟨.tmp 67, .r (.not (.tmp 66)), some (.tmp 63, false)⟩,
 ⟨.loc 68, .r (.pick (.tmp 63) (.cst (.bool true)) (.tmp 67)), none⟩])
 (.cond (.loc 68) (.seq (.reg [⟨.loc 6, .r (.mov (.cst (.bool false))), none⟩])
 .ret)
 .skip))
 (.seq (.reg [⟨.tmp 69, .r (.mov (.loc 13)), none⟩,
 ⟨.tmp 70, .call f7 [.tmp 69], none⟩])
 (.seq (.dreg ⟨[0, 1, 0, 7, 15, 31, 63, 31, 159, 415, 927, 2047, 4095, 8191, 16383, 32767, 16383, 81919, 212991, 475135, 1048575, 2097151, 4194303], 0, [⟨0, 0, false, .r (.mov (.loc 0)), none⟩,
 ⟨2, 0, false, .r (.mov (.loc 14)), none⟩,
 ⟨1, 0, true, .call f4 [.tmp 0], none⟩,
 ⟨3, 0, true, .call f6 [.tmp 1, .tmp 2], none⟩,
 ⟨4, 0, false, .r (.mov (.tmp 3)), none⟩,
 ⟨5, 0, false, .r (.mov (.loc 0)), some (.tmp 4, true)⟩,
 ⟨7, 0, false, .r (.mov (.loc 1)), some (.tmp 4, true)⟩,
 ⟨8, 0, false, .r (.chk (.tmp 7)), some (.tmp 4, true)⟩,
 ⟨9, 0, false, .r (.off 0 (.tmp 8)), some (.tmp 4, true)⟩,
 ⟨10, 0, false, .r (.load false 1 (.tmp 9)), some (.tmp 4, true)⟩,
 ⟨6, 0, true, .call f8 [.tmp 5], some (.tmp 4, true)⟩,
 ⟨11, 0, false, .r (.bin .eql (.tmp 6) (.tmp 10)), some (.tmp 4, true)⟩,
 ⟨12, 0, false, .r (.pick (.tmp 4) (.tmp 11) (.cst (.bool false))), none⟩,
 ⟨13, 0, false, .r (.mov (.tmp 12)), none⟩,
 ⟨14, 0, false, .r (.mov (.loc 0)), some (.tmp 13, true)⟩,
 ⟨16, 0, false, .r (.mov (.loc 1)), some (.tmp 13, true)⟩,
 ⟨17, 0, false, .r (.chk (.tmp 16)), some (.tmp 13, true)⟩,
 ⟨18, 0, false, .r (.off 2 (.tmp 17)), some (.tmp 13, true)⟩,
 ⟨19, 0, false, .r (.load false 1 (.tmp 18)), some (.tmp 13, true)⟩,
 ⟨15, 0, true, .call f9 [.tmp 14], some (.tmp 13, true)⟩,
 ⟨20, 0, false, .r (.beq .eql (.tmp 15) (.tmp 19)), some (.tmp 13, true)⟩,
 ⟨21, 0, false, .r (.pick (.tmp 13) (.tmp 20) (.cst (.bool false))), none⟩,
 ⟨22, 0, false, .r (.mov (.tmp 21)), none⟩], [(6, 22)]⟩)
 .ret))))))))))), [(.tmp (.loc 6))]⟩

def c_glebelaw04_All_l0 (f0 : FuncId) : AC := (.seq (.seq (.reg [⟨.tmp 7, .r (.mov (.loc 5)), none⟩,
 ⟨.tmp 8, .r (.mov (.loc 1)), none⟩,
 ⟨.tmp 9, .r (.chk (.tmp 8)), none⟩,
 ⟨.tmp 10, .r (.off 3 (.tmp 9)), none⟩,
 ⟨.tmp 11, .r (.load false 1 (.tmp 10)), none⟩,
 ⟨.tmp 12, .r (.len (.tmp 11)), none⟩,
 ⟨.loc 13, .r (.bin .lss (.tmp 7) (.tmp 12)), none⟩])
 (.cond (.loc 13) .skip
 (.exit 0)))
 (.seq (.block 1 (.seq (.reg [⟨.tmp 16, .r (.mov (.loc 0)), none⟩,
 ⟨.tmp 17, .r (.mov (.loc 1)), none⟩,
 ⟨.tmp 18, .r (.mov (.loc 1)), none⟩,
 ⟨.tmp 19, .r (.chk (.tmp 18)), none⟩,
 ⟨.tmp 20, .r (.off 3 (.tmp 19)), none⟩,
 ⟨.tmp 21, .r (.load false 1 (.tmp 20)), none⟩,
 ⟨.tmp 22, .r (.mov (.loc 5)), none⟩,
 ⟨.tmp 23, .r (.idx 3 (.tmp 21) (.tmp 22)), none⟩,
 ⟨.tmp 24, .r (.off 0 (.tmp 23)), none⟩,
 ⟨.tmp 25, .r (.load false 1 (.tmp 24)), none⟩,
 ⟨.tmp 26, .call f0 [.tmp 16, .tmp 17, .tmp 25], none⟩,
 ⟨.loc 27, .r (.not (.tmp 26)), none⟩])
 (.cond (.loc 27) (.seq (.reg [⟨.loc 4, .r (.mov (.cst (.bool false))), none⟩])
 .ret)
 .skip)))
 (.reg [⟨.tmp 14, .r (.mov (.loc 5)), none⟩,
 ⟨.tmp 15, .r (.bin .add (.tmp 14) (.cst (.int .i64 1))), none⟩,
 ⟨.loc 5, .r (.mov (.tmp 15)), none⟩])))
def c_glebelaw04_All_l1 (f0 : FuncId) : AC := (.seq (.seq (.reg [⟨.tmp 28, .r (.mov (.loc 6)), none⟩,
 ⟨.tmp 29, .r (.mov (.loc 1)), none⟩,
 ⟨.tmp 30, .r (.chk (.tmp 29)), none⟩,
 ⟨.tmp 31, .r (.off 4 (.tmp 30)), none⟩,
 ⟨.tmp 32, .r (.load false 1 (.tmp 31)), none⟩,
 ⟨.tmp 33, .r (.len (.tmp 32)), none⟩,
 ⟨.loc 34, .r (.bin .lss (.tmp 28) (.tmp 33)), none⟩])
 (.cond (.loc 34) .skip
 (.exit 2)))
 (.seq (.block 3 (.seq (.reg [⟨.tmp 37, .r (.mov (.loc 0)), none⟩,
 ⟨.tmp 38, .r (.mov (.loc 1)), none⟩,
 ⟨.tmp 39, .r (.mov (.loc 1)), none⟩,
 ⟨.tmp 40, .r (.chk (.tmp 39)), none⟩,
 ⟨.tmp 41, .r (.off 4 (.tmp 40)), none⟩,
 ⟨.tmp 42, .r (.load false 1 (.tmp 41)), none⟩,
 ⟨.tmp 43, .r (.mov (.loc 6)), none⟩,
 ⟨.tmp 44, .r (.idx 3 (.tmp 42) (.tmp 43)), none⟩,
 ⟨.tmp 45, .r (.off 0 (.tmp 44)), none⟩,
 ⟨.tmp 46, .r (.load false 1 (.tmp 45)), none⟩,
 ⟨.tmp 47, .call f0 [.tmp 37, .tmp 38, .tmp 46], none⟩,
 ⟨.loc 48, .r (.not (.tmp 47)), none⟩])
 (.cond (.loc 48) (.seq (.reg [⟨.loc 4, .r (.mov (.cst (.bool false))), none⟩])
 .ret)
 .skip)))
 (.reg [⟨.tmp 35, .r (.mov (.loc 6)), none⟩,
 ⟨.tmp 36, .r (.bin .add (.tmp 35) (.cst (.int .i64 1))), none⟩,
 ⟨.loc 6, .r (.mov (.tmp 36)), none⟩])))
/-- glebe/glebelaw04.All -/
def c_glebelaw04_All (f0 : FuncId) : AFn := ⟨52, fun s => List.contains [0, 1, 4, 5, 6, 13, 27, 34, 48] s, (.seq (.reg [⟨.loc 4, .r (.mov (.cst (.bool false))), none⟩])
 (.seq (.seq (.reg [⟨.loc 5, .r (.mov (.cst (.int .i64 0))), none⟩])
 (.block 0 (.loop (c_glebelaw04_All_l0 f0))))
 (.seq (.seq (.reg [⟨.loc 6, .r (.mov (.cst (.int .i64 0))), none⟩])
 (.block 2 (.loop (c_glebelaw04_All_l1 f0))))
 (.seq (.reg [⟨.tmp 49, .r (.mov (.loc 0)), none⟩,
 ⟨.tmp 50, .r (.mov (.loc 1)), none⟩,
 ⟨.tmp 51, .call f0 [.tmp 49, .tmp 50, (.cst (.int .i64 0))], none⟩,
 ⟨.loc 4, .r (.mov (.tmp 51)), none⟩])
 .ret)))), [(.tmp (.loc 4))]⟩

end Glb
