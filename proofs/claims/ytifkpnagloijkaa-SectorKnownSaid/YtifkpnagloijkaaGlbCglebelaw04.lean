/-
  What functions of the program are, one by one (the functions that they call as parameters), in a form of which something can be shown.
-/
import Derived.Test.YtifkpnagloijkaaGlbLibB
set_option linter.unusedSimpArgs false
set_option linter.unusedVariables false
namespace Glb
open Go
set_option maxRecDepth 100000

def c_glebelaw04_SectorCrashed_l0 (f0 f1 f2 f3 f4 f5 f6 f7 f8 f9 f10 f11 f12 : FuncId) : AC := (.seq (.seq (.reg [⟨.tmp 44, .r (.mov (.loc 13)), none⟩,
 ⟨.tmp 45, .r (.mov (.loc 1)), none⟩,
 ⟨.tmp 46, .r (.len (.tmp 45)), none⟩,
 ⟨.loc 47, .r (.bin .lss (.tmp 44) (.tmp 46)), none⟩])
 (.cond (.loc 47) .skip
 (.exit 0)))
 (.seq (.block 1 (.seq (.reg [⟨.tmp 50, .r (.mov (.loc 9)), none⟩,
 ⟨.tmp 51, .r (.mov (.loc 1)), none⟩,
 ⟨.tmp 52, .r (.mov (.loc 13)), none⟩,
 ⟨.tmp 53, .r (.idx 5 (.tmp 51) (.tmp 52)), none⟩,
 ⟨.tmp 54, .r (.load true 5 (.tmp 53)), none⟩,
 ⟨.tmp 55, .call f5 [.tmp 50, .tmp 54], none⟩])
 (.reg [⟨.tmp 56, .r (.mov (.loc 11)), none⟩,
 ⟨.tmp 57, .r (.mov (.loc 1)), none⟩,
 ⟨.tmp 58, .r (.mov (.loc 13)), none⟩,
 ⟨.tmp 59, .r (.idx 5 (.tmp 57) (.tmp 58)), none⟩,
 ⟨.tmp 60, .r (.load true 5 (.tmp 59)), none⟩,
 ⟨.tmp 61, .call f5 [.tmp 56, .tmp 60], none⟩])))
 (.reg [⟨.tmp 48, .r (.mov (.loc 13)), none⟩,
 ⟨.tmp 49, .r (.bin .add (.tmp 48) (.cst (.int .i64 1))), none⟩,
 ⟨.loc 13, .r (.mov (.tmp 49)), none⟩])))
def c_glebelaw04_SectorCrashed_l1 (f0 f1 f2 f3 f4 f5 f6 f7 f8 f9 f10 f11 f12 : FuncId) : AC := (.seq (.seq (.reg [⟨.tmp 76, .r (.mov (.loc 20)), none⟩,
 ⟨.tmp 77, .r (.mov (.loc 17)), none⟩,
 ⟨.tmp 78, .r (.len (.tmp 77)), none⟩,
 ⟨.loc 79, .r (.bin .lss (.tmp 76) (.tmp 78)), none⟩])
 (.cond (.loc 79) .skip
 (.exit 2)))
 (.seq (.block 3 (.seq (.seq (.reg [⟨.tmp 82, .r (.mov (.loc 15)), none⟩,
 ⟨.tmp 83, .r (.mov (.loc 20)), none⟩,
 ⟨.tmp 84, .call f10 [.tmp 82, .tmp 83], none⟩,
 ⟨.loc 85, .r (.not (.tmp 84)), none⟩])
 (.cond (.loc 85) (.seq (.seq (.dreg ⟨[0, 0, 3, 7, 0, 0, 48, 112, 255, 511], 0, [⟨0, 0, false, .r (.mov (.loc 17)), none⟩,
 ⟨1, 0, false, .r (.mov (.loc 20)), none⟩,
 ⟨2, 0, false, .r (.idx 1 (.tmp 0) (.tmp 1)), none⟩,
 ⟨3, 0, false, .r (.load false 1 (.tmp 2)), none⟩,
 ⟨4, 0, false, .r (.mov (.loc 14)), none⟩,
 ⟨5, 0, false, .r (.mov (.loc 20)), none⟩,
 ⟨6, 0, false, .r (.idx 1 (.tmp 4) (.tmp 5)), none⟩,
 ⟨7, 0, false, .r (.load false 1 (.tmp 6)), none⟩,
 ⟨8, 0, true, .call f11 [.tmp 3, .tmp 7], none⟩,
 ⟨9, 0, false, .r (.not (.tmp 8)), none⟩], [(95, 9)]⟩)
 (.cond (.loc 95) (.seq (.reg [⟨.loc 8, .r (.mov (.cst (.bool false))), none⟩])
 .ret)
 .skip))
 (.exit 3))
 .skip))
 (.seq (.reg [⟨.tmp 96, .r (.mov (.loc 18)), none⟩,
 ⟨.loc 21, .r (.mov (.tmp 96)), none⟩])
 (.seq (.seq (.reg [⟨.tmp 97, .r (.mov (.loc 19)), none⟩,
 ⟨.tmp 98, .r (.mov (.loc 2)), none⟩,
 ⟨.tmp 99, .r (.len (.tmp 98)), none⟩,
 ⟨.tmp 100, .r (.bin .geq (.tmp 97) (.tmp 99)), none⟩,
 ⟨.tmp 101, .r (.mov (.tmp 100)), none⟩,
 ⟨.tmp 102, .r (.mov (.loc 2)), some (.tmp 101, false)⟩,
 ⟨.tmp 103, .r (.mov (.loc 19)), some (.tmp 101, false)⟩,
 ⟨.tmp 104, .r (.idx 1 (.tmp 102) (.tmp 103)), some (.tmp 101, false)⟩,
 ⟨.tmp 105, .r (.load false 1 (.tmp 104)), some (.tmp 101, false)⟩,
 ⟨.tmp 106, .r (.bin .eql (.tmp 105) (.cst (.int .i64 0))), some (.tmp 101, false)⟩,
 ⟨.loc 107, .r (.pick (.tmp 101) (.cst (.bool true)) (.tmp 106)), none⟩])
 (.cond (.loc 107) (.reg [⟨.tmp 108, .r (.mov (.loc 16)), none⟩,
 ⟨.tmp 109, .r (.mov (.loc 20)), none⟩,
 ⟨.tmp 110, .r (.idx 1 (.tmp 108) (.tmp 109)), none⟩,
 ⟨.tmp 111, .r (.load false 1 (.tmp 110)), none⟩,
 ⟨.loc 21, .r (.mov (.tmp 111)), none⟩])
 (.seq (.reg [⟨.tmp 112, .r (.mov (.loc 2)), none⟩,
 ⟨.tmp 113, .r (.mov (.loc 19)), none⟩,
 ⟨.tmp 114, .r (.idx 1 (.tmp 112) (.tmp 113)), none⟩,
 ⟨.tmp 115, .r (.load false 1 (.tmp 114)), none⟩,
 ⟨.loc 116, .r (.bin .eql (.tmp 115) (.cst (.int .i64 1))), none⟩])
 (.cond (.loc 116) (.reg [⟨.tmp 117, .r (.mov (.loc 14)), none⟩,
 ⟨.tmp 118, .r (.mov (.loc 20)), none⟩,
 ⟨.tmp 119, .r (.idx 1 (.tmp 117) (.tmp 118)), none⟩,
 ⟨.tmp 120, .r (.load false 1 (.tmp 119)), none⟩,
 ⟨.loc 21, .r (.mov (.tmp 120)), none⟩])
 .skip))))
 (.seq (.seq (.reg [⟨.tmp 121, .r (.mov (.loc 17)), none⟩,
 ⟨.tmp 122, .r (.mov (.loc 20)), none⟩,
 ⟨.tmp 123, .r (.idx 1 (.tmp 121) (.tmp 122)), none⟩,
 ⟨.tmp 124, .r (.load false 1 (.tmp 123)), none⟩,
 ⟨.tmp 125, .r (.mov (.loc 21)), none⟩,
 ⟨.tmp 126, .call f11 [.tmp 124, .tmp 125], none⟩,
 ⟨.loc 127, .r (.not (.tmp 126)), none⟩])
 (.cond (.loc 127) (.seq (.reg [⟨.loc 8, .r (.mov (.cst (.bool false))), none⟩])
 .ret)
 .skip))
 (.reg [⟨.tmp 128, .r (.mov (.loc 19)), none⟩,
 ⟨.tmp 129, .r (.bin .add (.tmp 128) (.cst (.int .i64 1))), none⟩,
 ⟨.loc 19, .r (.mov (.tmp 129)), none⟩]))))))
 (.reg [⟨.tmp 80, .r (.mov (.loc 20)), none⟩,
 ⟨.tmp 81, .r (.bin .add (.tmp 80) (.cst (.int .i64 1))), none⟩,
 ⟨.loc 20, .r (.mov (.tmp 81)), none⟩])))
/-- glebe/glebelaw04.SectorCrashed -/
def c_glebelaw04_SectorCrashed (f0 f1 f2 f3 f4 f5 f6 f7 f8 f9 f10 f11 f12 : FuncId) : AFn := ⟨143, fun s => List.contains [0, 1, 2, 3, 8, 9, 11, 13, 14, 15, 16, 17, 18, 19, 20, 21, 23, 30, 47, 79, 85, 95, 107, 116, 127] s, (.seq (.reg [⟨.loc 8, .r (.mov (.cst (.bool false))), none⟩])
 (.seq (.seq (.reg [⟨.tmp 22, .call f0 [], none⟩,
 ⟨.loc 23, .r (.not (.tmp 22)), none⟩])
 (.cond (.loc 23) (.seq (.reg [⟨.loc 8, .r (.mov (.cst (.bool false))), none⟩])
 .ret)
 .skip))
 (.seq (.seq (.reg [⟨.tmp 24, .r (.mov (.loc 1)), none⟩,
 ⟨.tmp 25, .call f1 [.tmp 24], none⟩,
 ⟨.tmp 26, .r (.mov (.tmp 25)), none⟩,
 ⟨.tmp 27, .r (.mov (.loc 2)), some (.tmp 26, false)⟩,
 ⟨.tmp 28, .r (.len (.tmp 27)), some (.tmp 26, false)⟩,
 ⟨.tmp 29, .r (.bin .gtr (.tmp 28) (.cst (.int .i64 1024))), some (.tmp 26, false)⟩,
 ⟨.loc 30, .r (.pick (.tmp 26) (.cst (.bool true)) (.tmp 29)), none⟩])
 (.cond (.loc 30) (.seq (.reg [⟨.loc 8, .r (.mov (.cst (.bool true))), none⟩])
 .ret)
 .skip))
 (.seq (.reg [⟨.tmp 32, .r (.mov (.loc 0)), none⟩,
 ⟨.tmp 33, .call f2 [.tmp 32, (.cst (.int .i64 64))], none⟩,
 ⟨.tmp 34, .r (.bin .add (.cst (.int .i64 1)) (.tmp 33)), none⟩,
 ⟨.tmp 35, .call f3 [.tmp 34], none⟩,
 ⟨.tmp 31, .r (.mov (.tmp 35)), none⟩,
 ⟨.tmp 36, .r (.ext (.tmp 31) 0), none⟩,
 ⟨.tmp 37, .r (.ext (.tmp 31) 1), none⟩,
 ⟨.loc 9, .r (.mov (.tmp 36)), none⟩,
 ⟨.tmp 10, .r (.mov (.tmp 37)), none⟩])
 (.seq (.reg [⟨.tmp 39, .r (.mov (.loc 9)), none⟩,
 ⟨.tmp 40, .call f4 [.tmp 39], none⟩,
 ⟨.tmp 41, .call f3 [.tmp 40], none⟩,
 ⟨.tmp 38, .r (.mov (.tmp 41)), none⟩,
 ⟨.tmp 42, .r (.ext (.tmp 38) 0), none⟩,
 ⟨.tmp 43, .r (.ext (.tmp 38) 1), none⟩,
 ⟨.loc 11, .r (.mov (.tmp 42)), none⟩,
 ⟨.tmp 12, .r (.mov (.tmp 43)), none⟩])
 (.seq (.seq (.reg [⟨.loc 13, .r (.mov (.cst (.int .i64 0))), none⟩])
 (.block 0 (.loop (c_glebelaw04_SectorCrashed_l0 f0 f1 f2 f3 f4 f5 f6 f7 f8 f9 f10 f11 f12))))
 (.seq (.reg [⟨.tmp 62, .r (.mov (.loc 9)), none⟩,
 ⟨.tmp 63, .call f6 [.tmp 62], none⟩,
 ⟨.loc 14, .r (.mov (.tmp 63)), none⟩])
 (.seq (.reg [⟨.tmp 64, .r (.mov (.loc 9)), none⟩,
 ⟨.tmp 65, .call f7 [.tmp 64], none⟩,
 ⟨.loc 15, .r (.mov (.tmp 65)), none⟩])
 (.seq (.reg [⟨.tmp 66, .r (.mov (.loc 11)), none⟩,
 ⟨.tmp 67, .call f8 [.tmp 66, (.cst .nils)], none⟩])
 (.seq (.reg [⟨.tmp 68, .r (.mov (.loc 11)), none⟩,
 ⟨.tmp 69, .call f6 [.tmp 68], none⟩,
 ⟨.loc 16, .r (.mov (.tmp 69)), none⟩])
 (.seq (.reg [⟨.tmp 70, .r (.mov (.loc 9)), none⟩,
 ⟨.tmp 71, .r (.mov (.loc 2)), none⟩,
 ⟨.tmp 72, .call f8 [.tmp 70, .tmp 71], none⟩])
 (.seq (.reg [⟨.tmp 73, .r (.mov (.loc 9)), none⟩,
 ⟨.tmp 74, .call f6 [.tmp 73], none⟩,
 ⟨.loc 17, .r (.mov (.tmp 74)), none⟩])
 (.seq (.reg [⟨.tmp 75, .call f9 [(.cst (.int .i64 65))], none⟩,
 ⟨.loc 18, .r (.mov (.tmp 75)), none⟩])
 (.seq (.reg [⟨.loc 19, .r (.mov (.cst (.int .i64 0))), none⟩])
 (.seq (.seq (.reg [⟨.loc 20, .r (.mov (.cst (.int .i64 0))), none⟩])
 (.block 2 (.loop (c_glebelaw04_SectorCrashed_l1 f0 f1 f2 f3 f4 f5 f6 f7 f8 f9 f10 f11 f12))))
 (.seq (.reg [⟨.tmp 130, .r (.mov (.loc 9)), none⟩,
 ⟨.tmp 131, .r (.mov (.loc 3)), none⟩,
 ⟨.tmp 132, .call f8 [.tmp 130, .tmp 131], none⟩])
 (.seq (.reg [⟨.tmp 133, .r (.mov (.loc 19)), none⟩,
 ⟨.tmp 134, .r (.mov (.loc 15)), none⟩,
 ⟨.tmp 135, .r (.len (.tmp 134)), none⟩,
 ⟨.tmp 136, .r (.bin .eql (.tmp 133) (.tmp 135)), none⟩,
 ⟨.tmp 137, .r (.mov (.tmp 136)), none⟩,
 ⟨.tmp 138, .r (.mov (.loc 17)), some (.tmp 137, true)⟩,
 ⟨.tmp 139, .r (.mov (.loc 9)), some (.tmp 137, true)⟩,
 ⟨.tmp 140, .call f6 [.tmp 139], some (.tmp 137, true)⟩,
 ⟨.tmp 141, .call f12 [.tmp 138, .tmp 140], some (.tmp 137, true)⟩,
 ⟨.tmp 142, .r (.pick (.tmp 137) (.tmp 141) (.cst (.bool false))), none⟩,
 ⟨.loc 8, .r (.mov (.tmp 142)), none⟩])
 .ret))))))))))))))))), [(.tmp (.loc 8))]⟩

def c_glebelaw04_SectorRuns_l0 (f0 f1 f2 f3 f4 f5 f6 : FuncId) : AC := (.seq (.seq (.reg [⟨.tmp 40, .r (.mov (.loc 9)), none⟩,
 ⟨.tmp 41, .r (.mov (.loc 1)), none⟩,
 ⟨.tmp 42, .r (.len (.tmp 41)), none⟩,
 ⟨.loc 43, .r (.bin .lss (.tmp 40) (.tmp 42)), none⟩])
 (.cond (.loc 43) .skip
 (.exit 0)))
 (.seq (.block 1 (.seq (.reg [⟨.tmp 46, .r (.mov (.loc 5)), none⟩,
 ⟨.tmp 47, .r (.mov (.loc 7)), none⟩,
 ⟨.tmp 48, .r (.mov (.loc 1)), none⟩,
 ⟨.tmp 49, .r (.mov (.loc 9)), none⟩,
 ⟨.tmp 50, .r (.idx 5 (.tmp 48) (.tmp 49)), none⟩,
 ⟨.tmp 51, .r (.load true 5 (.tmp 50)), none⟩,
 ⟨.tmp 52, .call f4 [.tmp 46, .tmp 47, .tmp 51], none⟩,
 ⟨.tmp 53, .r (.not (.tmp 52)), none⟩,
 ⟨.tmp 54, .r (.mov (.tmp 53)), none⟩,
 ⟨.tmp 55, .r (.mov (.loc 5)), some (.tmp 54, false)⟩,
 ⟨.tmp 56, .r (.mov (.loc 7)), some (.tmp 54, false)⟩,
 ⟨.tmp 57, .r (.mov (.loc 1)), some (.tmp 54, false)⟩,
 ⟨.tmp 58, .r (.mov (.loc 9)), some (.tmp 54, false)⟩,
 ⟨.tmp 59, .r (.idx 5 (.tmp 57) (.tmp 58)), some (.tmp 54, false)⟩,
 ⟨.tmp 60, .r (.off 2 (.tmp 59)), some (.tmp 54, false)⟩,
 ⟨.tmp 61, .r (.load false 1 (.tmp 60)), some (.tmp 54, false)⟩,
 ⟨.tmp 62, .call f5 [.tmp 55, .tmp 56, .tmp 61], some (.tmp 54, false)⟩,
 ⟨.tmp 63, .r (.not (.tmp 62)), some (.tmp 54, false)⟩,
 ⟨.tmp 64, .r (.pick (.tmp 54) (.cst (.bool true)) (.tmp 63)), none⟩,
 ⟨.tmp 65, .r (.mov (.tmp 64)), none⟩,
 ⟨.tmp 66, .r (.mov (.loc 5)), some (.tmp 65, false)⟩,
 ⟨.tmp 67, .r (.mov (.loc 7)), some (.tmp 65, false)⟩,
 ⟨.tmp 68, .r (.mov (.loc 1)), some (.tmp 65, false)⟩,
 ⟨.tmp 69, .r (.mov (.loc 9)), some (.tmp 65, false)⟩,
 ⟨.tmp 70, .r (.idx 5 (.tmp 68) (.tmp 69)), some (.tmp 65, false)⟩,
 ⟨.tmp 71, .r (.off 1 (.tmp 70)), some (.tmp 65, false)⟩,
 ⟨.tmp 72, .r (.load false 1 (.tmp 71)), some (.tmp 65, false)⟩,
 ⟨.tmp 73, .call f5 [.tmp 66, .tmp 67, .tmp 72], some (.tmp 65, false)⟩,
 ⟨.tmp 74, .r (.not (.tmp 73)), some (.tmp 65, false)⟩,
 ⟨.loc 75, .r (.pick (.tmp 65) (.cst (.bool true)) (.tmp 74)), none⟩])
 (.cond (.loc 75) (.seq (.reg [⟨.loc 4, .r (.mov (.cst (.bool false))), none⟩])
 .ret)
 .skip)))
 (.reg [⟨.tmp 44, .r (.mov (.loc 9)), none⟩,
 ⟨.tmp 45, .r (.bin .add (.tmp 44) (.cst (.int .i64 1))), none⟩,
 ⟨.loc 9, .r (.mov (.tmp 45)), none⟩])))
/-- glebe/glebelaw04.SectorRuns -/
def c_glebelaw04_SectorRuns (f0 f1 f2 f3 f4 f5 f6 : FuncId) : AFn := ⟨82, fun s => List.contains [0, 1, 4, 5, 6, 7, 8, 9, 11, 29, 43, 75] s, (.seq (.reg [⟨.loc 4, .r (.mov (.cst (.bool false))), none⟩])
 (.seq (.seq (.reg [⟨.tmp 10, .r (.mov (.loc 1)), none⟩,
 ⟨.loc 11, .call f0 [.tmp 10], none⟩])
 (.cond (.loc 11) (.seq (.reg [⟨.tmp 12, .call f1 [], none⟩,
 ⟨.loc 4, .r (.mov (.tmp 12)), none⟩])
 .ret)
 .skip))
 (.seq (.reg [⟨.tmp 14, .r (.mov (.loc 0)), none⟩,
 ⟨.tmp 15, .call f2 [.tmp 14], none⟩,
 ⟨.tmp 13, .r (.mov (.tmp 15)), none⟩,
 ⟨.tmp 16, .r (.ext (.tmp 13) 0), none⟩,
 ⟨.tmp 17, .r (.ext (.tmp 13) 1), none⟩,
 ⟨.loc 5, .r (.mov (.tmp 16)), none⟩,
 ⟨.loc 6, .r (.mov (.tmp 17)), none⟩])
 (.seq (.reg [⟨.tmp 19, .r (.mov (.loc 0)), none⟩,
 ⟨.tmp 20, .call f3 [.tmp 19], none⟩,
 ⟨.tmp 18, .r (.mov (.tmp 20)), none⟩,
 ⟨.tmp 21, .r (.ext (.tmp 18) 0), none⟩,
 ⟨.tmp 22, .r (.ext (.tmp 18) 1), none⟩,
 ⟨.loc 7, .r (.mov (.tmp 21)), none⟩,
 ⟨.loc 8, .r (.mov (.tmp 22)), none⟩])
 (.seq (.seq (.reg [⟨.tmp 23, .r (.mov (.loc 6)), none⟩,
 ⟨.tmp 24, .r (.mov (.loc 8)), none⟩,
 ⟨.tmp 25, .r (.bin .neq (.tmp 23) (.tmp 24)), none⟩,
 ⟨.tmp 26, .r (.mov (.tmp 25)), none⟩,
 ⟨.tmp 27, .r (.mov (.loc 6)), some (.tmp 26, false)⟩,
 ⟨.tmp 28, .r (.bin .neq (.tmp 27) (.cst (.int .i64 0))), some (.tmp 26, false)⟩,
 ⟨.loc 29, .r (.pick (.tmp 26) (.cst (.bool true)) (.tmp 28)), none⟩])
 (.cond (.loc 29) (.seq (.reg [⟨.tmp 30, .r (.mov (.loc 6)), none⟩,
 ⟨.tmp 31, .r (.mov (.loc 8)), none⟩,
 ⟨.tmp 32, .r (.bin .eql (.tmp 30) (.tmp 31)), none⟩,
 ⟨.tmp 33, .r (.mov (.tmp 32)), none⟩,
 ⟨.tmp 34, .r (.mov (.loc 5)), some (.tmp 33, true)⟩,
 ⟨.tmp 35, .r (.x (.peq false (.tmp 34))), some (.tmp 33, true)⟩,
 ⟨.tmp 36, .r (.pick (.tmp 33) (.tmp 35) (.cst (.bool false))), none⟩,
 ⟨.tmp 37, .r (.mov (.tmp 36)), none⟩,
 ⟨.tmp 38, .call f1 [], some (.tmp 37, true)⟩,
 ⟨.tmp 39, .r (.pick (.tmp 37) (.tmp 38) (.cst (.bool false))), none⟩,
 ⟨.loc 4, .r (.mov (.tmp 39)), none⟩])
 .ret)
 .skip))
 (.seq (.seq (.reg [⟨.loc 9, .r (.mov (.cst (.int .i64 0))), none⟩])
 (.block 0 (.loop (c_glebelaw04_SectorRuns_l0 f0 f1 f2 f3 f4 f5 f6))))
 (.seq (.reg [⟨.tmp 76, .r (.mov (.loc 5)), none⟩,
 ⟨.tmp 77, .r (.mov (.loc 7)), none⟩,
 ⟨.tmp 78, .call f6 [.tmp 76, .tmp 77], none⟩,
 ⟨.tmp 79, .r (.mov (.tmp 78)), none⟩,
 ⟨.tmp 80, .call f1 [], some (.tmp 79, true)⟩,
 ⟨.tmp 81, .r (.pick (.tmp 79) (.tmp 80) (.cst (.bool false))), none⟩,
 ⟨.loc 4, .r (.mov (.tmp 81)), none⟩])
 .ret))))))), [(.tmp (.loc 4))]⟩

def c_glebelaw04_SectorFlushed_l0 (f0 f1 f2 f3 f4 f5 f6 f7 f8 f9 f10 : FuncId) : AC := (.seq (.seq (.reg [⟨.tmp 22, .r (.mov (.loc 9)), none⟩,
 ⟨.tmp 23, .r (.mov (.loc 1)), none⟩,
 ⟨.tmp 24, .r (.len (.tmp 23)), none⟩,
 ⟨.loc 25, .r (.bin .lss (.tmp 22) (.tmp 24)), none⟩])
 (.cond (.loc 25) .skip
 (.exit 0)))
 (.seq (.block 1 (.reg [⟨.tmp 28, .r (.mov (.loc 7)), none⟩,
 ⟨.tmp 29, .r (.mov (.loc 1)), none⟩,
 ⟨.tmp 30, .r (.mov (.loc 9)), none⟩,
 ⟨.tmp 31, .r (.idx 5 (.tmp 29) (.tmp 30)), none⟩,
 ⟨.tmp 32, .r (.load true 5 (.tmp 31)), none⟩,
 ⟨.tmp 33, .call f4 [.tmp 28, .tmp 32], none⟩]))
 (.reg [⟨.tmp 26, .r (.mov (.loc 9)), none⟩,
 ⟨.tmp 27, .r (.bin .add (.tmp 26) (.cst (.int .i64 1))), none⟩,
 ⟨.loc 9, .r (.mov (.tmp 27)), none⟩])))
/-- glebe/glebelaw04.SectorFlushed -/
def c_glebelaw04_SectorFlushed (f0 f1 f2 f3 f4 f5 f6 f7 f8 f9 f10 : FuncId) : AFn := ⟨70, fun s => List.contains [0, 1, 2, 6, 7, 9, 10, 12, 14, 25, 38, 57] s, (.seq (.reg [⟨.loc 6, .r (.mov (.cst (.bool false))), none⟩])
 (.seq (.seq (.reg [⟨.tmp 11, .call f0 [], none⟩,
 ⟨.loc 12, .r (.not (.tmp 11)), none⟩])
 (.cond (.loc 12) (.seq (.reg [⟨.loc 6, .r (.mov (.cst (.bool false))), none⟩])
 .ret)
 .skip))
 (.seq (.seq (.reg [⟨.tmp 13, .r (.mov (.loc 1)), none⟩,
 ⟨.loc 14, .call f1 [.tmp 13], none⟩])
 (.cond (.loc 14) (.seq (.reg [⟨.loc 6, .r (.mov (.cst (.bool true))), none⟩])
 .ret)
 .skip))
 (.seq (.reg [⟨.tmp 16, .r (.mov (.loc 0)), none⟩,
 ⟨.tmp 17, .call f2 [.tmp 16, (.cst (.int .i64 64))], none⟩,
 ⟨.tmp 18, .r (.bin .add (.cst (.int .i64 1)) (.tmp 17)), none⟩,
 ⟨.tmp 19, .call f3 [.tmp 18], none⟩,
 ⟨.tmp 15, .r (.mov (.tmp 19)), none⟩,
 ⟨.tmp 20, .r (.ext (.tmp 15) 0), none⟩,
 ⟨.tmp 21, .r (.ext (.tmp 15) 1), none⟩,
 ⟨.loc 7, .r (.mov (.tmp 20)), none⟩,
 ⟨.tmp 8, .r (.mov (.tmp 21)), none⟩])
 (.seq (.seq (.reg [⟨.loc 9, .r (.mov (.cst (.int .i64 0))), none⟩])
 (.block 0 (.loop (c_glebelaw04_SectorFlushed_l0 f0 f1 f2 f3 f4 f5 f6 f7 f8 f9 f10))))
 (.seq (.reg [⟨.tmp 34, .r (.mov (.loc 7)), none⟩,
 ⟨.tmp 35, .call f5 [.tmp 34], none⟩,
 ⟨.loc 10, .r (.mov (.tmp 35)), none⟩])
 (.seq (.seq (.reg [⟨.tmp 36, .r (.mov (.loc 7)), none⟩,
 ⟨.tmp 37, .call f6 [.tmp 36], none⟩,
 ⟨.loc 38, .r (.bin .neq (.tmp 37) (.cst (.int .i64 0))), none⟩])
 (.cond (.loc 38) (.seq (.reg [⟨.tmp 39, .r (.mov (.loc 7)), none⟩,
 ⟨.tmp 40, .call f7 [.tmp 39], none⟩,
 ⟨.tmp 41, .r (.mov (.tmp 40)), none⟩,
 ⟨.tmp 42, .r (.mov (.loc 10)), some (.tmp 41, true)⟩,
 ⟨.tmp 43, .r (.mov (.loc 7)), some (.tmp 41, true)⟩,
 ⟨.tmp 44, .call f5 [.tmp 43], some (.tmp 41, true)⟩,
 ⟨.tmp 45, .call f8 [.tmp 42, .tmp 44], some (.tmp 41, true)⟩,
 ⟨.tmp 46, .r (.pick (.tmp 41) (.tmp 45) (.cst (.bool false))), none⟩,
 ⟨.loc 6, .r (.mov (.tmp 46)), none⟩])
 .ret)
 .skip))
 (.seq (.seq (.reg [⟨.tmp 47, .r (.mov (.loc 7)), none⟩,
 ⟨.tmp 48, .call f9 [.tmp 47], none⟩,
 ⟨.tmp 49, .r (.len (.tmp 48)), none⟩,
 ⟨.tmp 50, .r (.bin .neq (.tmp 49) (.cst (.int .i64 0))), none⟩,
 ⟨.tmp 51, .r (.mov (.tmp 50)), none⟩,
 ⟨.tmp 52, .r (.mov (.loc 10)), some (.tmp 51, false)⟩,
 ⟨.tmp 53, .r (.mov (.loc 7)), some (.tmp 51, false)⟩,
 ⟨.tmp 54, .call f5 [.tmp 53], some (.tmp 51, false)⟩,
 ⟨.tmp 55, .call f8 [.tmp 52, .tmp 54], some (.tmp 51, false)⟩,
 ⟨.tmp 56, .r (.not (.tmp 55)), some (.tmp 51, false)⟩,
 ⟨.loc 57, .r (.pick (.tmp 51) (.cst (.bool true)) (.tmp 56)), none⟩])
 (.cond (.loc 57) (.seq (.reg [⟨.loc 6, .r (.mov (.cst (.bool false))), none⟩])
 .ret)
 .skip))
 (.seq (.reg [⟨.tmp 58, .r (.mov (.loc 7)), none⟩,
 ⟨.tmp 59, .r (.mov (.loc 2)), none⟩,
 ⟨.tmp 60, .call f10 [.tmp 58, .tmp 59], none⟩])
 (.seq (.reg [⟨.tmp 61, .r (.mov (.loc 10)), none⟩,
 ⟨.tmp 62, .r (.mov (.loc 7)), none⟩,
 ⟨.tmp 63, .call f5 [.tmp 62], none⟩,
 ⟨.tmp 64, .call f8 [.tmp 61, .tmp 63], none⟩,
 ⟨.tmp 65, .r (.mov (.tmp 64)), none⟩,
 ⟨.tmp 66, .r (.mov (.loc 7)), some (.tmp 65, true)⟩,
 ⟨.tmp 67, .call f7 [.tmp 66], some (.tmp 65, true)⟩,
 ⟨.tmp 68, .r (.not (.tmp 67)), some (.tmp 65, true)⟩,
 ⟨.tmp 69, .r (.pick (.tmp 65) (.tmp 68) (.cst (.bool false))), none⟩,
 ⟨.loc 6, .r (.mov (.tmp 69)), none⟩])
 .ret)))))))))), [(.tmp (.loc 6))]⟩

def c_glebelaw04_SectorFails_l0 (f0 f1 f2 f3 f4 f5 f6 f7 f8 f9 f10 : FuncId) : AC := (.seq (.seq (.reg [⟨.tmp 25, .r (.mov (.loc 8)), none⟩,
 ⟨.tmp 26, .r (.mov (.loc 0)), none⟩,
 ⟨.tmp 27, .r (.len (.tmp 26)), none⟩,
 ⟨.loc 28, .r (.bin .lss (.tmp 25) (.tmp 27)), none⟩])
 (.cond (.loc 28) .skip
 (.exit 0)))
 (.seq (.block 1 (.seq (.seq (.reg [⟨.tmp 31, .r (.mov (.loc 0)), none⟩,
 ⟨.tmp 32, .r (.mov (.loc 8)), none⟩,
 ⟨.tmp 33, .r (.idx 5 (.tmp 31) (.tmp 32)), none⟩,
 ⟨.tmp 34, .r (.off 0 (.tmp 33)), none⟩,
 ⟨.tmp 35, .r (.load false 1 (.tmp 34)), none⟩,
 ⟨.tmp 36, .r (.bin .neq (.tmp 35) (.cst (.int .i64 0))), none⟩,
 ⟨.tmp 37, .r (.mov (.tmp 36)), none⟩,
 ⟨.tmp 38, .r (.mov (.loc 0)), some (.tmp 37, true)⟩,
 ⟨.tmp 39, .r (.mov (.loc 8)), some (.tmp 37, true)⟩,
 ⟨.tmp 40, .r (.idx 5 (.tmp 38) (.tmp 39)), some (.tmp 37, true)⟩,
 ⟨.tmp 41, .r (.off 0 (.tmp 40)), some (.tmp 37, true)⟩,
 ⟨.tmp 42, .r (.load false 1 (.tmp 41)), some (.tmp 37, true)⟩,
 ⟨.tmp 43, .r (.bin .neq (.tmp 42) (.cst (.int .i64 1))), some (.tmp 37, true)⟩,
 ⟨.loc 44, .r (.pick (.tmp 37) (.tmp 43) (.cst (.bool false))), none⟩])
 (.cond (.loc 44) (.exit 1)
 .skip))
 (.seq (.reg [⟨.tmp 45, .r (.mov (.loc 5)), none⟩,
 ⟨.tmp 46, .call f5 [.tmp 45], none⟩,
 ⟨.loc 9, .r (.mov (.tmp 46)), none⟩])
 (.seq (.reg [⟨.tmp 47, .r (.mov (.loc 5)), none⟩,
 ⟨.tmp 48, .call f6 [.tmp 47], none⟩,
 ⟨.loc 10, .r (.mov (.tmp 48)), none⟩])
 (.seq (.reg [⟨.tmp 49, .r (.mov (.loc 5)), none⟩,
 ⟨.tmp 50, .r (.mov (.loc 0)), none⟩,
 ⟨.tmp 51, .r (.mov (.loc 8)), none⟩,
 ⟨.tmp 52, .r (.idx 5 (.tmp 50) (.tmp 51)), none⟩,
 ⟨.tmp 53, .r (.load true 5 (.tmp 52)), none⟩,
 ⟨.tmp 54, .call f7 [.tmp 49, .tmp 53], none⟩,
 ⟨.loc 11, .r (.mov (.tmp 54)), none⟩])
 (.seq (.seq (.reg [⟨.tmp 55, .r (.mov (.loc 11)), none⟩,
 ⟨.loc 56, .r (.bin .eql (.tmp 55) (.cst (.int .i64 0))), none⟩])
 (.cond (.loc 56) (.reg [⟨.tmp 57, .r (.mov (.loc 7)), none⟩,
 ⟨.tmp 58, .r (.bin .sub (.tmp 57) (.cst (.int .i64 1))), none⟩,
 ⟨.loc 7, .r (.mov (.tmp 58)), none⟩])
 .skip))
 (.seq (.seq (.reg [⟨.tmp 59, .r (.mov (.loc 7)), none⟩,
 ⟨.tmp 60, .r (.bin .lss (.tmp 59) (.cst (.int .i64 0))), none⟩,
 ⟨.tmp 61, .r (.mov (.tmp 60)), none⟩,
 ⟨.tmp 62, .r (.mov (.loc 11)), some (.tmp 61, false)⟩,
 ⟨.tmp 63, .r (.bin .eql (.tmp 62) (.cst (.int .i64 10))), some (.tmp 61, false)⟩,
 ⟨.tmp 64, .r (.mov (.loc 5)), some (.tmp 61, false)⟩,
 ⟨.tmp 65, .call f8 [.tmp 64], some (.tmp 61, false)⟩,
 ⟨.tmp 66, .r (.beq .neq (.tmp 63) (.tmp 65)), some (.tmp 61, false)⟩,
 ⟨.tmp 67, .r (.pick (.tmp 61) (.cst (.bool true)) (.tmp 66)), none⟩,
 ⟨.tmp 68, .r (.mov (.tmp 67)), none⟩,
 ⟨.tmp 69, .r (.mov (.loc 11)), some (.tmp 68, false)⟩,
 ⟨.tmp 70, .r (.bin .eql (.tmp 69) (.cst (.int .i64 10))), some (.tmp 68, false)⟩,
 ⟨.tmp 71, .r (.mov (.tmp 70)), some (.tmp 68, false)⟩,
 ⟨.tmp 72, .r (.mov (.loc 7)), some (.tmp 71, true)⟩,
 ⟨.tmp 73, .r (.bin .neq (.tmp 72) (.cst (.int .i64 0))), some (.tmp 71, true)⟩,
 ⟨.tmp 74, .r (.pick (.tmp 71) (.tmp 73) (.cst (.bool false))), some (.tmp 68, false)⟩,
 ⟨.loc 75, .r (.pick (.tmp 68) (.cst (.bool true)) (.tmp 74)), none⟩])
 (.cond (.loc 75) (.seq (.reg [⟨.loc 4, .r (.mov (.cst (.bool false))), none⟩])
 .ret)
 .skip))
 (.seq (.reg [⟨.tmp 76, .r (.mov (.loc 11)), none⟩,
 ⟨.tmp 77, .r (.bin .neq (.tmp 76) (.cst (.int .i64 0))), none⟩,
 ⟨.tmp 78, .r (.mov (.tmp 77)), none⟩,
 ⟨.tmp 79, .r (.mov (.loc 9)), some (.tmp 78, true)⟩,
 ⟨.tmp 80, .r (.mov (.loc 5)), some (.tmp 78, true)⟩,
 ⟨.tmp 81, .call f5 [.tmp 80], some (.tmp 78, true)⟩,
 ⟨.tmp 82, .call f9 [.tmp 79, .tmp 81], some (.tmp 78, true)⟩,
 ⟨.tmp 83, .r (.not (.tmp 82)), some (.tmp 78, true)⟩,
 ⟨.tmp 84, .r (.mov (.tmp 83)), some (.tmp 78, true)⟩,
 ⟨.tmp 85, .r (.mov (.loc 10)), some (.tmp 84, false)⟩,
 ⟨.tmp 86, .r (.mov (.loc 5)), some (.tmp 84, false)⟩,
 ⟨.tmp 87, .call f6 [.tmp 86], some (.tmp 84, false)⟩,
 ⟨.tmp 88, .call f10 [.tmp 85, .tmp 87], some (.tmp 84, false)⟩,
 ⟨.tmp 89, .r (.not (.tmp 88)), some (.tmp 84, false)⟩,
 ⟨.tmp 90, .r (.pick (.tmp 84) (.cst (.bool true)) (.tmp 89)), some (.tmp 78, true)⟩,
 ⟨.loc 91, .r (.pick (.tmp 78) (.tmp 90) (.cst (.bool false))), none⟩])
 (.cond (.loc 91) (.seq (.reg [⟨.loc 4, .r (.mov (.cst (.bool false))), none⟩])
 .ret)
 .skip)))))))))
 (.reg [⟨.tmp 29, .r (.mov (.loc 8)), none⟩,
 ⟨.tmp 30, .r (.bin .add (.tmp 29) (.cst (.int .i64 1))), none⟩,
 ⟨.loc 8, .r (.mov (.tmp 30)), none⟩])))
/-- glebe/glebelaw04.SectorFails -/
def c_glebelaw04_SectorFails (f0 f1 f2 f3 f4 f5 f6 f7 f8 f9 f10 : FuncId) : AFn := ⟨92, fun s => List.contains [0, 1, 4, 5, 7, 8, 9, 10, 11, 13, 15, 28, 44, 56, 75, 91] s, (.seq (.reg [⟨.loc 4, .r (.mov (.cst (.bool false))), none⟩])
 (.seq (.seq (.reg [⟨.tmp 12, .call f0 [], none⟩,
 ⟨.loc 13, .r (.not (.tmp 12)), none⟩])
 (.cond (.loc 13) (.seq (.reg [⟨.loc 4, .r (.mov (.cst (.bool false))), none⟩])
 .ret)
 .skip))
 (.seq (.seq (.reg [⟨.tmp 14, .r (.mov (.loc 0)), none⟩,
 ⟨.loc 15, .call f1 [.tmp 14], none⟩])
 (.cond (.loc 15) (.seq (.reg [⟨.loc 4, .r (.mov (.cst (.bool true))), none⟩])
 .ret)
 .skip))
 (.seq (.reg [⟨.tmp 17, .call f2 [(.cst (.int .i64 16))], none⟩,
 ⟨.tmp 16, .r (.mov (.tmp 17)), none⟩,
 ⟨.tmp 18, .r (.ext (.tmp 16) 0), none⟩,
 ⟨.tmp 19, .r (.ext (.tmp 16) 1), none⟩,
 ⟨.loc 5, .r (.mov (.tmp 18)), none⟩,
 ⟨.tmp 6, .r (.mov (.tmp 19)), none⟩])
 (.seq (.reg [⟨.tmp 20, .r (.mov (.loc 1)), none⟩,
 ⟨.tmp 21, .call f3 [.tmp 20, (.cst (.int .i64 100))], none⟩,
 ⟨.loc 7, .r (.mov (.tmp 21)), none⟩])
 (.seq (.reg [⟨.tmp 22, .r (.mov (.loc 5)), none⟩,
 ⟨.tmp 23, .r (.mov (.loc 7)), none⟩,
 ⟨.tmp 24, .call f4 [.tmp 22, .tmp 23], none⟩])
 (.seq (.seq (.reg [⟨.loc 8, .r (.mov (.cst (.int .i64 0))), none⟩])
 (.block 0 (.loop (c_glebelaw04_SectorFails_l0 f0 f1 f2 f3 f4 f5 f6 f7 f8 f9 f10))))
 (.seq (.reg [⟨.loc 4, .r (.mov (.cst (.bool true))), none⟩])
 .ret)))))))), [(.tmp (.loc 4))]⟩

def c_glebelaw04_SectorKnown_l0 (f0 f1 f2 f3 f4 f5 : FuncId) : AC := (.seq (.seq (.reg [⟨.tmp 12, .r (.mov (.loc 3)), none⟩,
 ⟨.tmp 13, .r (.mov (.loc 1)), none⟩,
 ⟨.tmp 14, .r (.len (.tmp 13)), none⟩,
 ⟨.loc 15, .r (.bin .lss (.tmp 12) (.tmp 14)), none⟩])
 (.cond (.loc 15) .skip
 (.exit 2)))
 (.seq (.block 3 (.seq (.dreg ⟨[0, 1, 0, 0, 8, 0, 0, 64, 0, 256, 0, 0, 0, 6144, 14336, 0, 0, 98304, 229376, 522240, 1046528, 0, 2097152, 0, 8388608, 0, 0, 100663296, 234881024, 0, 0, 0, 3221225472, 7516192768, 17146314752, 536870912, 34896609280, 0, 0, 412316860416, 962072674304, 2061584302080, 0, 0, 0, 0, 0, 0, 211106232532992, 492581209243648, 1055531162664960, 34896609280, 2251834710294528, 0, 9007199254740992, 0, 0, 144115188075855871, 288230376151711743], 9, [⟨0, 0, false, .h (.bsl 1 [(.cst (.int .u8 7))]), none⟩,
 ⟨1, 1, false, .r (.build [(.int .i64 0), (.int .i64 0), (.int .i64 0), .nils, .nils] [(0, 1, (.cst (.int .i64 0))), (1, 1, (.cst (.int .i64 1))), (3, 1, .tmp 0)]), none⟩,
 ⟨2, 1, false, .r (.build [(.int .i64 0), (.int .i64 0), (.int .i64 0), .nils, .nils] [(0, 1, (.cst (.int .i64 3)))]), none⟩,
 ⟨3, 1, false, .h (.bsl 1 [(.cst (.int .u8 7))]), none⟩,
 ⟨4, 2, false, .r (.build [(.int .i64 0), (.int .i64 0), (.int .i64 0), .nils, .nils] [(0, 1, (.cst (.int .i64 0))), (1, 1, (.cst (.int .i64 1))), (3, 1, .tmp 3)]), none⟩,
 ⟨5, 2, false, .r (.build [(.int .i64 0), (.int .i64 0), (.int .i64 0), .nils, .nils] [(0, 1, (.cst (.int .i64 1)))]), none⟩,
 ⟨6, 2, false, .h (.bsl 1 [(.cst (.int .u8 8))]), none⟩,
 ⟨7, 3, false, .r (.build [(.int .i64 0), (.int .i64 0), (.int .i64 0), .nils, .nils] [(0, 1, (.cst (.int .i64 0))), (1, 1, (.cst (.int .i64 1))), (3, 1, .tmp 6)]), none⟩,
 ⟨8, 3, false, .h (.bsl 1 [(.cst (.int .u8 9))]), none⟩,
 ⟨9, 4, false, .r (.build [(.int .i64 0), (.int .i64 0), (.int .i64 0), .nils, .nils] [(0, 1, (.cst (.int .i64 0))), (1, 1, (.cst (.int .i64 2))), (3, 1, .tmp 8)]), none⟩,
 ⟨10, 4, false, .r (.build [(.int .i64 0), (.int .i64 0), (.int .i64 0), .nils, .nils] [(0, 1, (.cst (.int .i64 0))), (1, 1, (.cst (.int .i64 1)))]), none⟩,
 ⟨11, 4, false, .r (.mov (.loc 1)), none⟩,
 ⟨12, 4, false, .r (.mov (.loc 2)), none⟩,
 ⟨13, 4, false, .r (.idx 1 (.tmp 11) (.tmp 12)), none⟩,
 ⟨14, 4, false, .r (.load false 1 (.tmp 13)), none⟩,
 ⟨15, 4, false, .r (.mov (.loc 1)), none⟩,
 ⟨16, 4, false, .r (.mov (.loc 3)), none⟩,
 ⟨17, 4, false, .r (.idx 1 (.tmp 15) (.tmp 16)), none⟩,
 ⟨18, 4, false, .r (.load false 1 (.tmp 17)), none⟩,
 ⟨19, 4, false, .h (.bsl 1 [.tmp 14, .tmp 18]), none⟩,
 ⟨20, 5, false, .r (.build [(.int .i64 0), (.int .i64 0), (.int .i64 0), .nils, .nils] [(0, 1, (.cst (.int .i64 3))), (4, 1, .tmp 19), (2, 1, (.cst (.int .i64 1)))]), none⟩,
 ⟨21, 5, false, .h (.bsl 1 [(.cst (.int .u8 10))]), none⟩,
 ⟨22, 6, false, .r (.build [(.int .i64 0), (.int .i64 0), (.int .i64 0), .nils, .nils] [(0, 1, (.cst (.int .i64 0))), (1, 1, (.cst (.int .i64 1))), (3, 1, .tmp 21), (2, 1, (.cst (.int .i64 2)))]), none⟩,
 ⟨23, 6, false, .h (.bsl 1 [(.cst (.int .i64 0))]), none⟩,
 ⟨24, 7, false, .r (.build [(.int .i64 0), (.int .i64 0), (.int .i64 0), .nils, .nils] [(0, 1, (.cst (.int .i64 3))), (4, 1, .tmp 23)]), none⟩,
 ⟨25, 7, false, .r (.mov (.loc 1)), none⟩,
 ⟨26, 7, false, .r (.mov (.loc 2)), none⟩,
 ⟨27, 7, false, .r (.idx 1 (.tmp 25) (.tmp 26)), none⟩,
 ⟨28, 7, false, .r (.load false 1 (.tmp 27)), none⟩,
 ⟨30, 7, false, .r (.mov (.loc 1)), none⟩,
 ⟨31, 7, false, .r (.mov (.loc 3)), none⟩,
 ⟨32, 7, false, .r (.idx 1 (.tmp 30) (.tmp 31)), none⟩,
 ⟨33, 7, false, .r (.load false 1 (.tmp 32)), none⟩,
 ⟨37, 7, false, .r (.mov (.loc 1)), none⟩,
 ⟨38, 7, false, .r (.mov (.loc 3)), none⟩,
 ⟨39, 7, false, .r (.idx 1 (.tmp 37) (.tmp 38)), none⟩,
 ⟨40, 7, false, .r (.load false 1 (.tmp 39)), none⟩,
 ⟨41, 7, false, .r (.build [(.int .i64 0), (.int .i64 0), (.int .i64 0), .nils, .nils] [(0, 1, (.cst (.int .i64 2))), (1, 1, .tmp 40)]), none⟩,
 ⟨42, 7, false, .r (.build [(.int .i64 0), (.int .i64 0), (.int .i64 0), .nils, .nils] [(0, 1, (.cst (.int .i64 0))), (1, 1, (.cst (.int .i64 9)))]), none⟩,
 ⟨43, 7, false, .r (.build [(.int .i64 0), (.int .i64 0), (.int .i64 0), .nils, .nils] [(0, 1, (.cst (.int .i64 0))), (1, 1, (.cst (.int .i64 3)))]), none⟩,
 ⟨44, 7, false, .r (.build [(.int .i64 0), (.int .i64 0), (.int .i64 0), .nils, .nils] [(0, 1, (.cst (.int .i64 1))), (1, 1, (.cst (.int .i64 3)))]), none⟩,
 ⟨45, 7, false, .r (.build [(.int .i64 0), (.int .i64 0), (.int .i64 0), .nils, .nils] [(0, 1, (.cst (.int .i64 1)))]), none⟩,
 ⟨46, 7, false, .r (.mov (.loc 1)), none⟩,
 ⟨47, 7, false, .r (.mov (.loc 2)), none⟩,
 ⟨48, 7, false, .r (.idx 1 (.tmp 46) (.tmp 47)), none⟩,
 ⟨49, 7, false, .r (.load false 1 (.tmp 48)), none⟩,
 ⟨50, 7, false, .r (.build [(.int .i64 0), (.int .i64 0), (.int .i64 0), .nils, .nils] [(0, 1, (.cst (.int .i64 0))), (1, 1, .tmp 49)]), none⟩,
 ⟨53, 7, false, .h (.bsl 1 [(.cst (.int .i64 1)), (.cst (.int .i64 1)), (.cst (.int .i64 2)), (.cst (.int .i64 3))]), none⟩,
 ⟨54, 8, false, .r (.build [(.int .i64 0), (.int .i64 0), (.int .i64 0), .nils, .nils] [(0, 1, (.cst (.int .i64 3))), (4, 1, .tmp 53)]), none⟩,
 ⟨55, 8, false, .r (.build [(.int .i64 0), (.int .i64 0), (.int .i64 0), .nils, .nils] [(0, 1, (.cst (.int .i64 9)))]), none⟩,
 ⟨56, 8, false, .r (.build [(.int .i64 0), (.int .i64 0), (.int .i64 0), .nils, .nils] [(0, 1, (.cst (.int .i64 1)))]), none⟩,
 ⟨29, 7, true, .call f0 [(.cst (.int .i64 64))], none⟩,
 ⟨34, 7, false, .r (.build [(.int .i64 0), (.int .i64 0), (.int .i64 0), .nils, .nils] [(0, 1, (.cst (.int .i64 0))), (1, 1, .tmp 28), (3, 1, .tmp 29), (2, 1, .tmp 33)]), none⟩,
 ⟨35, 7, true, .call f0 [(.cst (.int .i64 65))], none⟩,
 ⟨36, 7, false, .r (.build [(.int .i64 0), (.int .i64 0), (.int .i64 0), .nils, .nils] [(0, 1, (.cst (.int .i64 0))), (1, 1, (.cst (.int .i64 2))), (3, 1, .tmp 35)]), none⟩,
 ⟨51, 7, true, .call f0 [(.cst (.int .i64 65))], none⟩,
 ⟨52, 7, false, .r (.build [(.int .i64 0), (.int .i64 0), (.int .i64 0), .nils, .nils] [(0, 1, (.cst (.int .i64 0))), (3, 1, .tmp 51)]), none⟩,
 ⟨57, 8, false, .h (.bsl 5 [.tmp 1, .tmp 2, .tmp 4, .tmp 5, .tmp 7, .tmp 9, .tmp 10, .tmp 20, .tmp 22, .tmp 24, .tmp 34, .tmp 36, .tmp 41, .tmp 42, .tmp 43, .tmp 44, .tmp 45, .tmp 50, .tmp 52, .tmp 54, .tmp 55, .tmp 56]), none⟩,
 ⟨58, 9, false, .r (.mov (.tmp 57)), none⟩], [(4, 58)]⟩)
 (.seq (.dreg ⟨[0, 1, 3, 7, 15, 15, 63, 127, 15, 511, 1023, 2047, 4095, 8191, 8191, 8191, 57343, 122879, 262143, 524287, 1048575, 2097151, 4194303, 4194303, 16777215, 33554431, 4194303, 4194303, 4194303, 406847487, 943718399, 2017460223, 4294967295, 8589934591, 17179869183, 34359738367, 68719476735, 68719476735, 274877906943, 549755813887, 68719476735, 1168231104511, 68719476735, 68719476735, 13262859010047, 30855045054463, 68719476735, 68719476735, 211174952009727, 492649928720383, 1121570579808255, 68719476735, 4503599627370495, 9007199254740991, 18014398509481983], 3, [⟨0, 0, false, .r (.mov (.loc 4)), none⟩,
 ⟨1, 0, true, .call f1 [(.cst (.int .i64 4)), .tmp 0], none⟩,
 ⟨2, 0, false, .r (.not (.tmp 1)), none⟩,
 ⟨3, 0, false, .r (.mov (.tmp 2)), none⟩,
 ⟨4, 0, false, .r (.mov (.loc 1)), some (.tmp 3, false)⟩,
 ⟨5, 0, false, .r (.mov (.loc 2)), some (.tmp 3, false)⟩,
 ⟨6, 0, false, .r (.idx 1 (.tmp 4) (.tmp 5)), some (.tmp 3, false)⟩,
 ⟨7, 0, false, .r (.load false 1 (.tmp 6)), some (.tmp 3, false)⟩,
 ⟨8, 0, false, .r (.mov (.loc 4)), some (.tmp 3, false)⟩,
 ⟨9, 0, true, .call f1 [.tmp 7, .tmp 8], some (.tmp 3, false)⟩,
 ⟨10, 0, false, .r (.not (.tmp 9)), some (.tmp 3, false)⟩,
 ⟨11, 0, false, .r (.pick (.tmp 3) (.cst (.bool true)) (.tmp 10)), none⟩,
 ⟨12, 0, false, .r (.mov (.tmp 11)), none⟩,
 ⟨13, 0, false, .r (.mov (.loc 4)), some (.tmp 12, false)⟩,
 ⟨14, 0, false, .r (.mov (.loc 1)), some (.tmp 12, false)⟩,
 ⟨15, 0, false, .r (.mov (.loc 3)), some (.tmp 12, false)⟩,
 ⟨16, 0, false, .r (.idx 1 (.tmp 14) (.tmp 15)), some (.tmp 12, false)⟩,
 ⟨17, 0, false, .r (.load false 1 (.tmp 16)), some (.tmp 12, false)⟩,
 ⟨18, 0, true, .call f2 [.tmp 13, .tmp 17], some (.tmp 12, false)⟩,
 ⟨19, 0, false, .r (.not (.tmp 18)), some (.tmp 12, false)⟩,
 ⟨20, 0, false, .r (.pick (.tmp 12) (.cst (.bool true)) (.tmp 19)), none⟩,
 ⟨21, 0, false, .r (.mov (.tmp 20)), none⟩,
 ⟨22, 0, false, .r (.mov (.loc 1)), some (.tmp 21, false)⟩,
 ⟨23, 0, false, .r (.mov (.loc 2)), some (.tmp 21, false)⟩,
 ⟨24, 0, false, .r (.idx 1 (.tmp 22) (.tmp 23)), some (.tmp 21, false)⟩,
 ⟨25, 0, false, .r (.load false 1 (.tmp 24)), some (.tmp 21, false)⟩,
 ⟨26, 0, false, .r (.mov (.loc 4)), some (.tmp 21, false)⟩,
 ⟨27, 0, false, .r (.mov (.loc 1)), some (.tmp 21, false)⟩,
 ⟨28, 0, false, .r (.mov (.loc 3)), some (.tmp 21, false)⟩,
 ⟨29, 0, false, .r (.idx 1 (.tmp 27) (.tmp 28)), some (.tmp 21, false)⟩,
 ⟨30, 0, false, .r (.load false 1 (.tmp 29)), some (.tmp 21, false)⟩,
 ⟨31, 0, false, .h (.bsl 1 [.tmp 30]), some (.tmp 21, false)⟩,
 ⟨32, 1, true, .call f3 [.tmp 25, .tmp 26, .tmp 31], some (.tmp 21, false)⟩,
 ⟨33, 1, false, .r (.not (.tmp 32)), some (.tmp 21, false)⟩,
 ⟨34, 1, false, .r (.pick (.tmp 21) (.cst (.bool true)) (.tmp 33)), none⟩,
 ⟨35, 1, false, .r (.mov (.tmp 34)), none⟩,
 ⟨36, 1, false, .r (.mov (.loc 1)), some (.tmp 35, false)⟩,
 ⟨37, 1, false, .r (.mov (.loc 2)), some (.tmp 35, false)⟩,
 ⟨38, 1, false, .r (.idx 1 (.tmp 36) (.tmp 37)), some (.tmp 35, false)⟩,
 ⟨39, 1, false, .r (.load false 1 (.tmp 38)), some (.tmp 35, false)⟩,
 ⟨40, 1, false, .r (.mov (.loc 4)), some (.tmp 35, false)⟩,
 ⟨41, 1, false, .r (.slc 5 (.tmp 40) none (some (.cst (.int .i64 7))) none), some (.tmp 35, false)⟩,
 ⟨42, 1, false, .r (.mov (.loc 1)), some (.tmp 35, false)⟩,
 ⟨43, 1, false, .r (.mov (.loc 3)), some (.tmp 35, false)⟩,
 ⟨44, 1, false, .r (.idx 1 (.tmp 42) (.tmp 43)), some (.tmp 35, false)⟩,
 ⟨45, 1, false, .r (.load false 1 (.tmp 44)), some (.tmp 35, false)⟩,
 ⟨46, 1, false, .r (.mov (.loc 1)), some (.tmp 35, false)⟩,
 ⟨47, 1, false, .r (.mov (.loc 2)), some (.tmp 35, false)⟩,
 ⟨48, 1, false, .r (.idx 1 (.tmp 46) (.tmp 47)), some (.tmp 35, false)⟩,
 ⟨49, 1, false, .r (.load false 1 (.tmp 48)), some (.tmp 35, false)⟩,
 ⟨50, 1, false, .h (.bsl 1 [.tmp 45, .tmp 49]), some (.tmp 35, false)⟩,
 ⟨51, 2, false, .h (.bsl 1 [(.cst (.int .i64 1)), (.cst (.int .i64 1))]), some (.tmp 35, false)⟩,
 ⟨52, 3, true, .call f4 [.tmp 39, .tmp 41, .tmp 50, .tmp 51], some (.tmp 35, false)⟩,
 ⟨53, 3, false, .r (.not (.tmp 52)), some (.tmp 35, false)⟩,
 ⟨54, 3, false, .r (.pick (.tmp 35) (.cst (.bool true)) (.tmp 53)), none⟩], [(130, 54)]⟩)
 (.cond (.loc 130) (.seq (.reg [⟨.loc 0, .r (.mov (.cst (.bool false))), none⟩])
 .ret)
 .skip))))
 (.reg [⟨.tmp 16, .r (.mov (.loc 3)), none⟩,
 ⟨.tmp 17, .r (.bin .add (.tmp 16) (.cst (.int .i64 1))), none⟩,
 ⟨.loc 3, .r (.mov (.tmp 17)), none⟩])))
def c_glebelaw04_SectorKnown_l1 (f0 f1 f2 f3 f4 f5 : FuncId) : AC := (.seq (.seq (.reg [⟨.tmp 6, .r (.mov (.loc 2)), none⟩,
 ⟨.tmp 7, .r (.mov (.loc 1)), none⟩,
 ⟨.tmp 8, .r (.len (.tmp 7)), none⟩,
 ⟨.loc 9, .r (.bin .lss (.tmp 6) (.tmp 8)), none⟩])
 (.cond (.loc 9) .skip
 (.exit 0)))
 (.seq (.block 1 (.seq (.reg [⟨.loc 3, .r (.mov (.cst (.int .i64 0))), none⟩])
 (.block 2 (.loop (c_glebelaw04_SectorKnown_l0 f0 f1 f2 f3 f4 f5)))))
 (.reg [⟨.tmp 10, .r (.mov (.loc 2)), none⟩,
 ⟨.tmp 11, .r (.bin .add (.tmp 10) (.cst (.int .i64 1))), none⟩,
 ⟨.loc 2, .r (.mov (.tmp 11)), none⟩])))
/-- glebe/glebelaw04.SectorKnown -/
def c_glebelaw04_SectorKnown (f0 f1 f2 f3 f4 f5 : FuncId) : AFn := ⟨132, fun s => List.contains [0, 1, 2, 3, 4, 9, 15, 130] s, (.seq (.reg [⟨.loc 0, .r (.mov (.cst (.bool false))), none⟩])
 (.seq (.reg [⟨.tmp 5, .h (.bsl 1 [(.cst (.int .i64 (-9223372036854775808))), (.cst (.int .i64 (-1))), (.cst (.int .i64 0)), (.cst (.int .i64 1)), (.cst (.int .i64 2)), (.cst (.int .i64 3)), (.cst (.int .i64 4)), (.cst (.int .i64 16384)), (.cst (.int .i64 16385)), (.cst (.int .i64 9223372036854775807))]), none⟩,
 ⟨.loc 1, .r (.mov (.tmp 5)), none⟩])
 (.seq (.seq (.reg [⟨.loc 2, .r (.mov (.cst (.int .i64 0))), none⟩])
 (.block 0 (.loop (c_glebelaw04_SectorKnown_l1 f0 f1 f2 f3 f4 f5))))
 (.seq (.reg [⟨.tmp 131, .call f5 [], none⟩,
 ⟨.loc 0, .r (.mov (.tmp 131)), none⟩])
 .ret)))), [(.tmp (.loc 0))]⟩

/-- glebe/glebelaw04.works -/
def c_glebelaw04_works (f0 f1 f2 f3 f4 f5 f6 : FuncId) : AFn := ⟨78, fun s => List.contains [0, 1, 2, 3, 4, 5, 6, 8, 9, 10, 20] s, (.seq (.reg [⟨.loc 0, .r (.mov (.cst (.bool false))), none⟩])
 (.seq (.reg [⟨.tmp 12, .call f0 [(.cst (.int .i64 4))], none⟩,
 ⟨.tmp 11, .r (.mov (.tmp 12)), none⟩,
 ⟨.tmp 13, .r (.ext (.tmp 11) 0), none⟩,
 ⟨.tmp 14, .r (.ext (.tmp 11) 1), none⟩,
 ⟨.loc 1, .r (.mov (.tmp 13)), none⟩,
 ⟨.loc 2, .r (.mov (.tmp 14)), none⟩])
 (.seq (.seq (.reg [⟨.tmp 15, .r (.mov (.loc 2)), none⟩,
 ⟨.tmp 16, .r (.bin .neq (.tmp 15) (.cst (.int .i64 0))), none⟩,
 ⟨.tmp 17, .r (.mov (.tmp 16)), none⟩,
 ⟨.tmp 18, .r (.mov (.loc 1)), some (.tmp 17, false)⟩,
 ⟨.tmp 19, .r (.x (.peq false (.tmp 18))), some (.tmp 17, false)⟩,
 ⟨.loc 20, .r (.pick (.tmp 17) (.cst (.bool true)) (.tmp 19)), none⟩])
 (.cond (.loc 20) (.seq (.reg [⟨.loc 0, .r (.mov (.cst (.bool false))), none⟩])
 .ret)
 .skip))
 (.seq (.reg [⟨.tmp 21, .r (.mov (.loc 1)), none⟩,
 ⟨.tmp 22, .h (.bsl 1 [(.cst (.int .u8 7))]), none⟩,
 ⟨.tmp 23, .call f1 [.tmp 21, (.cst (.int .i64 1)), .tmp 22], none⟩,
 ⟨.loc 3, .r (.mov (.tmp 23)), none⟩])
 (.seq (.reg [⟨.tmp 24, .r (.mov (.loc 1)), none⟩,
 ⟨.tmp 25, .call f2 [.tmp 24], none⟩,
 ⟨.loc 4, .r (.mov (.tmp 25)), none⟩])
 (.seq (.reg [⟨.tmp 26, .r (.mov (.loc 1)), none⟩,
 ⟨.tmp 27, .h (.bsl 1 [(.cst (.int .u8 8))]), none⟩,
 ⟨.tmp 28, .call f1 [.tmp 26, (.cst (.int .i64 1)), .tmp 27], none⟩,
 ⟨.loc 5, .r (.mov (.tmp 28)), none⟩])
 (.seq (.reg [⟨.tmp 29, .r (.mov (.loc 1)), none⟩,
 ⟨.tmp 30, .h (.bsl 1 [(.cst (.int .u8 9))]), none⟩,
 ⟨.tmp 31, .call f1 [.tmp 29, (.cst (.int .i64 2)), .tmp 30], none⟩,
 ⟨.loc 6, .r (.mov (.tmp 31)), none⟩])
 (.seq (.reg [⟨.tmp 32, .r (.mov (.loc 1)), none⟩,
 ⟨.tmp 33, .h (.bsl 1 [(.cst (.int .i64 2)), (.cst (.int .i64 1))]), none⟩,
 ⟨.tmp 34, .call f3 [.tmp 32, .tmp 33], none⟩])
 (.seq (.reg [⟨.tmp 36, .r (.mov (.loc 1)), none⟩,
 ⟨.tmp 37, .call f4 [.tmp 36, (.cst (.int .i64 1))], none⟩,
 ⟨.tmp 35, .r (.mov (.tmp 37)), none⟩,
 ⟨.tmp 38, .r (.ext (.tmp 35) 0), none⟩,
 ⟨.tmp 39, .r (.ext (.tmp 35) 1), none⟩,
 ⟨.tmp 7, .r (.mov (.tmp 38)), none⟩,
 ⟨.loc 8, .r (.mov (.tmp 39)), none⟩])
 (.seq (.reg [⟨.tmp 41, .r (.mov (.loc 1)), none⟩,
 ⟨.tmp 42, .call f4 [.tmp 41, (.cst (.int .i64 2))], none⟩,
 ⟨.tmp 40, .r (.mov (.tmp 42)), none⟩,
 ⟨.tmp 43, .r (.ext (.tmp 40) 0), none⟩,
 ⟨.tmp 44, .r (.ext (.tmp 40) 1), none⟩,
 ⟨.loc 9, .r (.mov (.tmp 43)), none⟩,
 ⟨.loc 10, .r (.mov (.tmp 44)), none⟩])
 (.seq (.reg [⟨.tmp 45, .r (.mov (.loc 3)), none⟩,
 ⟨.tmp 46, .r (.bin .eql (.tmp 45) (.cst (.int .i64 0))), none⟩,
 ⟨.tmp 47, .r (.mov (.tmp 46)), none⟩,
 ⟨.tmp 48, .r (.mov (.loc 4)), some (.tmp 47, true)⟩,
 ⟨.tmp 49, .r (.bin .eql (.tmp 48) (.cst (.int .i64 0))), some (.tmp 47, true)⟩,
 ⟨.tmp 50, .r (.pick (.tmp 47) (.tmp 49) (.cst (.bool false))), none⟩,
 ⟨.tmp 51, .r (.mov (.tmp 50)), none⟩,
 ⟨.tmp 52, .r (.mov (.loc 5)), some (.tmp 51, true)⟩,
 ⟨.tmp 53, .r (.bin .eql (.tmp 52) (.cst (.int .i64 0))), some (.tmp 51, true)⟩,
 ⟨.tmp 54, .r (.pick (.tmp 51) (.tmp 53) (.cst (.bool false))), none⟩,
 ⟨.tmp 55, .r (.mov (.tmp 54)), none⟩,
 ⟨.tmp 56, .r (.mov (.loc 6)), some (.tmp 55, true)⟩,
 ⟨.tmp 57, .r (.bin .eql (.tmp 56) (.cst (.int .i64 0))), some (.tmp 55, true)⟩,
 ⟨.tmp 58, .r (.pick (.tmp 55) (.tmp 57) (.cst (.bool false))), none⟩,
 ⟨.tmp 59, .r (.mov (.tmp 58)), none⟩,
 ⟨.tmp 60, .r (.mov (.loc 8)), some (.tmp 59, true)⟩,
 ⟨.tmp 61, .r (.bin .eql (.tmp 60) (.cst (.int .i64 9))), some (.tmp 59, true)⟩,
 ⟨.tmp 62, .r (.pick (.tmp 59) (.tmp 61) (.cst (.bool false))), none⟩,
 ⟨.tmp 63, .r (.mov (.tmp 62)), none⟩,
 ⟨.tmp 64, .r (.mov (.loc 10)), some (.tmp 63, true)⟩,
 ⟨.tmp 65, .r (.bin .eql (.tmp 64) (.cst (.int .i64 0))), some (.tmp 63, true)⟩,
 ⟨.tmp 66, .r (.pick (.tmp 63) (.tmp 65) (.cst (.bool false))), none⟩,
 ⟨.tmp 67, .r (.mov (.tmp 66)), none⟩,
 ⟨.tmp 68, .r (.mov (.loc 9)), some (.tmp 67, true)⟩,
 ⟨.tmp 69, .h (.bsl 1 [(.cst (.int .u8 9))]), some (.tmp 67, true)⟩,
 ⟨.tmp 70, .call f5 [.tmp 68, .tmp 69], some (.tmp 67, true)⟩,
 ⟨.tmp 71, .r (.pick (.tmp 67) (.tmp 70) (.cst (.bool false))), none⟩,
 ⟨.tmp 72, .r (.mov (.tmp 71)), none⟩,
 ⟨.tmp 73, .r (.mov (.loc 1)), some (.tmp 72, true)⟩,
 ⟨.tmp 74, .call f6 [.tmp 73], some (.tmp 72, true)⟩,
 ⟨.tmp 75, .r (.len (.tmp 74)), some (.tmp 72, true)⟩,
 ⟨.tmp 76, .r (.bin .eql (.tmp 75) (.cst (.int .i64 0))), some (.tmp 72, true)⟩,
 ⟨.tmp 77, .r (.pick (.tmp 72) (.tmp 76) (.cst (.bool false))), none⟩,
 ⟨.loc 0, .r (.mov (.tmp 77)), none⟩])
 .ret))))))))))), [(.tmp (.loc 0))]⟩

def c_glebelaw04_long_l0 : AC := (.seq (.seq (.reg [⟨.tmp 7, .r (.mov (.loc 3)), none⟩,
 ⟨.tmp 8, .r (.mov (.loc 0)), none⟩,
 ⟨.tmp 9, .r (.len (.tmp 8)), none⟩,
 ⟨.loc 10, .r (.bin .lss (.tmp 7) (.tmp 9)), none⟩])
 (.cond (.loc 10) .skip
 (.exit 0)))
 (.seq (.block 1 (.seq (.reg [⟨.tmp 13, .r (.mov (.loc 0)), none⟩,
 ⟨.tmp 14, .r (.mov (.loc 3)), none⟩,
 ⟨.tmp 15, .r (.idx 5 (.tmp 13) (.tmp 14)), none⟩,
 ⟨.tmp 16, .r (.off 3 (.tmp 15)), none⟩,
 ⟨.tmp 17, .r (.load false 1 (.tmp 16)), none⟩,
 ⟨.tmp 18, .r (.len (.tmp 17)), none⟩,
 ⟨.tmp 19, .r (.bin .gtr (.tmp 18) (.cst (.int .i64 1024))), none⟩,
 ⟨.tmp 20, .r (.mov (.tmp 19)), none⟩,
 ⟨.tmp 21, .r (.mov (.loc 0)), some (.tmp 20, false)⟩,
 ⟨.tmp 22, .r (.mov (.loc 3)), some (.tmp 20, false)⟩,
 ⟨.tmp 23, .r (.idx 5 (.tmp 21) (.tmp 22)), some (.tmp 20, false)⟩,
 ⟨.tmp 24, .r (.off 4 (.tmp 23)), some (.tmp 20, false)⟩,
 ⟨.tmp 25, .r (.load false 1 (.tmp 24)), some (.tmp 20, false)⟩,
 ⟨.tmp 26, .r (.len (.tmp 25)), some (.tmp 20, false)⟩,
 ⟨.tmp 27, .r (.bin .gtr (.tmp 26) (.cst (.int .i64 1024))), some (.tmp 20, false)⟩,
 ⟨.loc 28, .r (.pick (.tmp 20) (.cst (.bool true)) (.tmp 27)), none⟩])
 (.cond (.loc 28) (.seq (.reg [⟨.loc 2, .r (.mov (.cst (.bool true))), none⟩])
 .ret)
 .skip)))
 (.reg [⟨.tmp 11, .r (.mov (.loc 3)), none⟩,
 ⟨.tmp 12, .r (.bin .add (.tmp 11) (.cst (.int .i64 1))), none⟩,
 ⟨.loc 3, .r (.mov (.tmp 12)), none⟩])))
/-- glebe/glebelaw04.long -/
def c_glebelaw04_long : AFn := ⟨29, fun s => List.contains [0, 2, 3, 6, 10, 28] s, (.seq (.reg [⟨.loc 2, .r (.mov (.cst (.bool false))), none⟩])
 (.seq (.seq (.reg [⟨.tmp 4, .r (.mov (.loc 0)), none⟩,
 ⟨.tmp 5, .r (.len (.tmp 4)), none⟩,
 ⟨.loc 6, .r (.bin .gtr (.tmp 5) (.cst (.int .i64 200))), none⟩])
 (.cond (.loc 6) (.seq (.reg [⟨.loc 2, .r (.mov (.cst (.bool true))), none⟩])
 .ret)
 .skip))
 (.seq (.seq (.reg [⟨.loc 3, .r (.mov (.cst (.int .i64 0))), none⟩])
 (.block 0 (.loop (c_glebelaw04_long_l0))))
 (.seq (.reg [⟨.loc 2, .r (.mov (.cst (.bool false))), none⟩])
 .ret)))), [(.tmp (.loc 2))]⟩

/-- glebe/glebelaw04.run -/
def c_glebelaw04_run (f0 f1 f2 f3 : FuncId) : AFn := ⟨31, fun s => List.contains [0, 1, 3, 4, 6, 7, 15, 19, 25] s, (.seq (.reg [⟨.loc 3, .h (.box (.loc 1)), none⟩,
 ⟨.loc 4, .r (.mov (.cst (.int .i64 0))), none⟩])
 (.seq (.seq (.reg [⟨.tmp 5, .r (.off 0 (.loc 3)), none⟩,
 ⟨.loc 6, .r (.load false 1 (.tmp 5)), none⟩])
 (.block 0 (.seq (.reg [⟨.tmp 8, .r (.bin .eql (.loc 6) (.cst (.int .i64 0))), none⟩,
 ⟨.loc 7, .r (.mov (.tmp 8)), none⟩])
 (.cond (.loc 7) (.seq (.reg [⟨.tmp 9, .r (.mov (.loc 0)), none⟩,
 ⟨.tmp 10, .r (.off 1 (.loc 3)), none⟩,
 ⟨.tmp 11, .r (.load false 1 (.tmp 10)), none⟩,
 ⟨.tmp 12, .r (.off 3 (.loc 3)), none⟩,
 ⟨.tmp 13, .r (.load false 1 (.tmp 12)), none⟩,
 ⟨.tmp 14, .call f0 [.tmp 9, .tmp 11, .tmp 13], none⟩,
 ⟨.loc 4, .r (.mov (.tmp 14)), none⟩])
 .ret)
 (.seq (.reg [⟨.tmp 16, .r (.bin .eql (.loc 6) (.cst (.int .i64 1))), none⟩,
 ⟨.loc 15, .r (.mov (.tmp 16)), none⟩])
 (.cond (.loc 15) (.seq (.reg [⟨.tmp 17, .r (.mov (.loc 0)), none⟩,
 ⟨.tmp 18, .call f1 [.tmp 17], none⟩,
 ⟨.loc 4, .r (.mov (.tmp 18)), none⟩])
 .ret)
 (.seq (.reg [⟨.tmp 20, .r (.bin .eql (.loc 6) (.cst (.int .i64 2))), none⟩,
 ⟨.loc 19, .r (.mov (.tmp 20)), none⟩])
 (.cond (.loc 19) (.reg [⟨.tmp 21, .r (.mov (.loc 0)), none⟩,
 ⟨.tmp 22, .r (.off 1 (.loc 3)), none⟩,
 ⟨.tmp 23, .r (.load false 1 (.tmp 22)), none⟩,
 ⟨.tmp 24, .call f2 [.tmp 21, .tmp 23], none⟩])
 (.seq (.reg [⟨.tmp 26, .r (.bin .eql (.loc 6) (.cst (.int .i64 3))), none⟩,
 ⟨.loc 25, .r (.mov (.tmp 26)), none⟩])
 (.cond (.loc 25) (.reg [⟨.tmp 27, .r (.mov (.loc 0)), none⟩,
 ⟨.tmp 28, .r (.off 4 (.loc 3)), none⟩,
 ⟨.tmp 29, .r (.load false 1 (.tmp 28)), none⟩,
 ⟨.tmp 30, .call f3 [.tmp 27, .tmp 29], none⟩])
 .skip))))))))))
 (.seq (.reg [⟨.loc 4, .r (.mov (.cst (.int .i64 0))), none⟩])
 .ret))), [(.tmp (.loc 4))]⟩

def c_glebelaw04_shown_l0 (f0 f1 f2 : FuncId) : AC := (.seq (.seq (.reg [⟨.tmp 7, .r (.mov (.loc 4)), none⟩,
 ⟨.tmp 8, .r (.mov (.loc 0)), none⟩,
 ⟨.tmp 9, .call f0 [.tmp 8], none⟩,
 ⟨.tmp 10, .r (.bin .lss (.tmp 7) (.tmp 9)), none⟩,
 ⟨.tmp 11, .r (.mov (.tmp 10)), none⟩,
 ⟨.tmp 12, .r (.mov (.loc 4)), some (.tmp 11, true)⟩,
 ⟨.tmp 13, .r (.bin .lss (.tmp 12) (.cst (.int .i64 64))), some (.tmp 11, true)⟩,
 ⟨.loc 14, .r (.pick (.tmp 11) (.tmp 13) (.cst (.bool false))), none⟩])
 (.cond (.loc 14) .skip
 (.exit 0)))
 (.seq (.block 1 (.seq (.reg [⟨.tmp 18, .r (.mov (.loc 0)), none⟩,
 ⟨.tmp 19, .r (.mov (.loc 4)), none⟩,
 ⟨.tmp 20, .call f1 [.tmp 18, .tmp 19], none⟩,
 ⟨.tmp 17, .r (.mov (.tmp 20)), none⟩,
 ⟨.tmp 21, .r (.ext (.tmp 17) 0), none⟩,
 ⟨.tmp 22, .r (.ext (.tmp 17) 1), none⟩,
 ⟨.loc 5, .r (.mov (.tmp 21)), none⟩,
 ⟨.loc 6, .r (.mov (.tmp 22)), none⟩])
 (.seq (.seq (.reg [⟨.tmp 23, .r (.mov (.loc 6)), none⟩,
 ⟨.loc 24, .r (.bin .neq (.tmp 23) (.cst (.int .i64 0))), none⟩])
 (.cond (.loc 24) (.reg [⟨.tmp 25, .call f2 [(.cst (.int .i64 65))], none⟩,
 ⟨.loc 5, .r (.mov (.tmp 25)), none⟩])
 .skip))
 (.reg [⟨.tmp 26, .r (.mov (.loc 3)), none⟩,
 ⟨.tmp 27, .r (.mov (.loc 5)), none⟩,
 ⟨.tmp 28, .h (.bsl 1 [.tmp 27]), none⟩,
 ⟨.tmp 29, .h (.app 1 24 (.tmp 26) (.tmp 28)), none⟩,
 ⟨.loc 3, .r (.mov (.tmp 29)), none⟩]))))
 (.reg [⟨.tmp 15, .r (.mov (.loc 4)), none⟩,
 ⟨.tmp 16, .r (.bin .add (.tmp 15) (.cst (.int .i64 1))), none⟩,
 ⟨.loc 4, .r (.mov (.tmp 16)), none⟩])))
/-- glebe/glebelaw04.shown -/
def c_glebelaw04_shown (f0 f1 f2 : FuncId) : AFn := ⟨31, fun s => List.contains [0, 2, 3, 4, 5, 6, 14, 24] s, (.seq (.reg [⟨.loc 2, .r (.mov (.cst .nils)), none⟩])
 (.seq (.reg [⟨.loc 3, .r (.mov (.cst .nils)), none⟩])
 (.seq (.seq (.reg [⟨.loc 4, .r (.mov (.cst (.int .i64 0))), none⟩])
 (.block 0 (.loop (c_glebelaw04_shown_l0 f0 f1 f2))))
 (.seq (.reg [⟨.tmp 30, .r (.mov (.loc 3)), none⟩,
 ⟨.loc 2, .r (.mov (.tmp 30)), none⟩])
 .ret)))), [(.tmp (.loc 2))]⟩

def c_glebelaw04_in_l0 : AC := (.seq (.seq (.reg [⟨.tmp 6, .r (.mov (.loc 5)), none⟩,
 ⟨.tmp 7, .r (.mov (.loc 0)), none⟩,
 ⟨.tmp 8, .r (.len (.tmp 7)), none⟩,
 ⟨.loc 9, .r (.bin .lss (.tmp 6) (.tmp 8)), none⟩])
 (.cond (.loc 9) .skip
 (.exit 0)))
 (.seq (.block 1 (.seq (.reg [⟨.tmp 12, .r (.mov (.loc 0)), none⟩,
 ⟨.tmp 13, .r (.mov (.loc 5)), none⟩,
 ⟨.tmp 14, .r (.idx 1 (.tmp 12) (.tmp 13)), none⟩,
 ⟨.tmp 15, .r (.load false 1 (.tmp 14)), none⟩,
 ⟨.tmp 16, .r (.mov (.loc 1)), none⟩,
 ⟨.loc 17, .r (.bin .eql (.tmp 15) (.tmp 16)), none⟩])
 (.cond (.loc 17) (.seq (.reg [⟨.loc 4, .r (.mov (.cst (.bool true))), none⟩])
 .ret)
 .skip)))
 (.reg [⟨.tmp 10, .r (.mov (.loc 5)), none⟩,
 ⟨.tmp 11, .r (.bin .add (.tmp 10) (.cst (.int .i64 1))), none⟩,
 ⟨.loc 5, .r (.mov (.tmp 11)), none⟩])))
/-- glebe/glebelaw04.in -/
def c_glebelaw04_in : AFn := ⟨18, fun s => List.contains [0, 1, 4, 5, 9, 17] s, (.seq (.reg [⟨.loc 4, .r (.mov (.cst (.bool false))), none⟩])
 (.seq (.seq (.reg [⟨.loc 5, .r (.mov (.cst (.int .i64 0))), none⟩])
 (.block 0 (.loop (c_glebelaw04_in_l0))))
 (.seq (.reg [⟨.loc 4, .r (.mov (.cst (.bool false))), none⟩])
 .ret))), [(.tmp (.loc 4))]⟩

/-- glebe/glebelaw04.both -/
def c_glebelaw04_both (f0 f1 f2 f3 f4 f5 f6 f7 f8 f9 f10 f11 f12 : FuncId) : AFn := ⟨80, fun s => List.contains [0, 1, 2, 5, 6, 7, 8, 9, 11, 12, 40, 43, 50, 60] s, (.seq (.reg [⟨.loc 5, .h (.box (.loc 2)), none⟩,
 ⟨.loc 6, .r (.mov (.cst (.bool false))), none⟩])
 (.seq (.seq (.reg [⟨.tmp 10, .r (.off 0 (.loc 5)), none⟩,
 ⟨.loc 11, .r (.load false 1 (.tmp 10)), none⟩])
 (.block 0 (.seq (.reg [⟨.tmp 13, .r (.bin .eql (.loc 11) (.cst (.int .i64 0))), none⟩,
 ⟨.loc 12, .r (.mov (.tmp 13)), none⟩])
 (.cond (.loc 12) (.seq (.reg [⟨.tmp 14, .r (.off 3 (.loc 5)), none⟩,
 ⟨.tmp 15, .r (.load false 1 (.tmp 14)), none⟩,
 ⟨.tmp 16, .call f0 [.tmp 15], none⟩,
 ⟨.loc 7, .r (.mov (.tmp 16)), none⟩])
 (.seq (.dreg ⟨[0, 0, 2, 0, 0, 16, 48, 120, 255, 511], 0, [⟨0, 0, false, .r (.mov (.loc 0)), none⟩,
 ⟨1, 0, false, .r (.off 1 (.loc 5)), none⟩,
 ⟨2, 0, false, .r (.load false 1 (.tmp 1)), none⟩,
 ⟨3, 0, false, .r (.mov (.loc 7)), none⟩,
 ⟨4, 0, false, .r (.off 3 (.loc 5)), none⟩,
 ⟨5, 0, false, .r (.load false 1 (.tmp 4)), none⟩,
 ⟨6, 0, false, .r (.len (.tmp 5)), none⟩,
 ⟨7, 0, false, .r (.slc 1 (.tmp 3) none (some (.tmp 6)) none), none⟩,
 ⟨8, 0, true, .call f1 [.tmp 0, .tmp 2, .tmp 7], none⟩,
 ⟨9, 0, false, .r (.mov (.tmp 8)), none⟩], [(8, 9)]⟩)
 (.seq (.seq (.reg [⟨.tmp 26, .r (.mov (.loc 8)), none⟩,
 ⟨.tmp 27, .r (.mov (.loc 1)), none⟩,
 ⟨.tmp 28, .r (.off 1 (.loc 5)), none⟩,
 ⟨.tmp 29, .r (.load false 1 (.tmp 28)), none⟩,
 ⟨.tmp 30, .r (.off 3 (.loc 5)), none⟩,
 ⟨.tmp 31, .r (.load false 1 (.tmp 30)), none⟩,
 ⟨.tmp 32, .call f2 [.tmp 27, .tmp 29, .tmp 31], none⟩,
 ⟨.tmp 33, .r (.bin .neq (.tmp 26) (.tmp 32)), none⟩,
 ⟨.tmp 34, .r (.mov (.tmp 33)), none⟩,
 ⟨.tmp 35, .r (.mov (.loc 7)), some (.tmp 34, false)⟩,
 ⟨.tmp 36, .r (.off 3 (.loc 5)), some (.tmp 34, false)⟩,
 ⟨.tmp 37, .r (.load false 1 (.tmp 36)), some (.tmp 34, false)⟩,
 ⟨.tmp 38, .call f3 [.tmp 35, .tmp 37], some (.tmp 34, false)⟩,
 ⟨.tmp 39, .r (.not (.tmp 38)), some (.tmp 34, false)⟩,
 ⟨.loc 40, .r (.pick (.tmp 34) (.cst (.bool true)) (.tmp 39)), none⟩])
 (.cond (.loc 40) (.seq (.reg [⟨.loc 6, .r (.mov (.cst (.bool false))), none⟩])
 .ret)
 .skip))
 (.reg [⟨.tmp 41, .r (.mov (.loc 7)), none⟩,
 ⟨.tmp 42, .call f4 [.tmp 41], none⟩]))))
 (.seq (.reg [⟨.tmp 44, .r (.bin .eql (.loc 11) (.cst (.int .i64 1))), none⟩,
 ⟨.loc 43, .r (.mov (.tmp 44)), none⟩])
 (.cond (.loc 43) (.seq (.reg [⟨.tmp 45, .r (.mov (.loc 0)), none⟩,
 ⟨.tmp 46, .call f5 [.tmp 45], none⟩,
 ⟨.tmp 47, .r (.mov (.loc 1)), none⟩,
 ⟨.tmp 48, .call f6 [.tmp 47], none⟩,
 ⟨.tmp 49, .r (.bin .eql (.tmp 46) (.tmp 48)), none⟩,
 ⟨.loc 6, .r (.mov (.tmp 49)), none⟩])
 .ret)
 (.seq (.reg [⟨.tmp 51, .r (.bin .eql (.loc 11) (.cst (.int .i64 2))), none⟩,
 ⟨.loc 50, .r (.mov (.tmp 51)), none⟩])
 (.cond (.loc 50) (.seq (.reg [⟨.tmp 52, .r (.mov (.loc 0)), none⟩,
 ⟨.tmp 53, .r (.off 1 (.loc 5)), none⟩,
 ⟨.tmp 54, .r (.load false 1 (.tmp 53)), none⟩,
 ⟨.tmp 55, .call f7 [.tmp 52, .tmp 54], none⟩])
 (.reg [⟨.tmp 56, .r (.mov (.loc 1)), none⟩,
 ⟨.tmp 57, .r (.off 1 (.loc 5)), none⟩,
 ⟨.tmp 58, .r (.load false 1 (.tmp 57)), none⟩,
 ⟨.tmp 59, .call f8 [.tmp 56, .tmp 58], none⟩]))
 (.seq (.reg [⟨.tmp 61, .r (.bin .eql (.loc 11) (.cst (.int .i64 3))), none⟩,
 ⟨.loc 60, .r (.mov (.tmp 61)), none⟩])
 (.cond (.loc 60) (.seq (.reg [⟨.tmp 62, .r (.off 4 (.loc 5)), none⟩,
 ⟨.tmp 63, .r (.load false 1 (.tmp 62)), none⟩,
 ⟨.tmp 64, .call f9 [.tmp 63], none⟩,
 ⟨.loc 9, .r (.mov (.tmp 64)), none⟩])
 (.seq (.reg [⟨.tmp 65, .r (.mov (.loc 0)), none⟩,
 ⟨.tmp 66, .r (.mov (.loc 9)), none⟩,
 ⟨.tmp 67, .r (.off 4 (.loc 5)), none⟩,
 ⟨.tmp 68, .r (.load false 1 (.tmp 67)), none⟩,
 ⟨.tmp 69, .r (.len (.tmp 68)), none⟩,
 ⟨.tmp 70, .r (.slc 1 (.tmp 66) none (some (.tmp 69)) none), none⟩,
 ⟨.tmp 71, .call f10 [.tmp 65, .tmp 70], none⟩])
 (.seq (.reg [⟨.tmp 72, .r (.mov (.loc 1)), none⟩,
 ⟨.tmp 73, .r (.off 4 (.loc 5)), none⟩,
 ⟨.tmp 74, .r (.load false 1 (.tmp 73)), none⟩,
 ⟨.tmp 75, .call f11 [.tmp 72, .tmp 74], none⟩])
 (.seq (.reg [⟨.tmp 76, .r (.mov (.loc 9)), none⟩,
 ⟨.tmp 77, .r (.off 4 (.loc 5)), none⟩,
 ⟨.tmp 78, .r (.load false 1 (.tmp 77)), none⟩,
 ⟨.tmp 79, .call f12 [.tmp 76, .tmp 78], none⟩,
 ⟨.loc 6, .r (.mov (.tmp 79)), none⟩])
 .ret))))
 .skip))))))))))
 (.seq (.reg [⟨.loc 6, .r (.mov (.cst (.bool true))), none⟩])
 .ret))), [(.tmp (.loc 6))]⟩

/-- glebe/glebelaw04.Looks -/
def c_glebelaw04_Looks (f0 f1 f2 f3 f4 f5 f6 f7 f8 f9 : FuncId) : AFn := ⟨93, fun s => List.contains [0, 1, 2, 6, 7, 8, 9, 10, 11, 12, 13, 14, 52, 68] s, (.seq (.reg [⟨.loc 6, .r (.mov (.cst (.bool false))), none⟩])
 (.seq (.reg [⟨.tmp 16, .r (.mov (.loc 0)), none⟩,
 ⟨.tmp 17, .r (.mov (.loc 2)), none⟩,
 ⟨.tmp 18, .call f0 [.tmp 16, .tmp 17], none⟩,
 ⟨.tmp 15, .r (.mov (.tmp 18)), none⟩,
 ⟨.tmp 19, .r (.ext (.tmp 15) 0), none⟩,
 ⟨.tmp 20, .r (.ext (.tmp 15) 1), none⟩,
 ⟨.loc 7, .r (.mov (.tmp 19)), none⟩,
 ⟨.loc 8, .r (.mov (.tmp 20)), none⟩])
 (.seq (.reg [⟨.tmp 22, .r (.mov (.loc 0)), none⟩,
 ⟨.tmp 23, .r (.mov (.loc 2)), none⟩,
 ⟨.tmp 24, .call f0 [.tmp 22, .tmp 23], none⟩,
 ⟨.tmp 21, .r (.mov (.tmp 24)), none⟩,
 ⟨.tmp 25, .r (.ext (.tmp 21) 0), none⟩,
 ⟨.tmp 26, .r (.ext (.tmp 21) 1), none⟩,
 ⟨.loc 9, .r (.mov (.tmp 25)), none⟩,
 ⟨.loc 10, .r (.mov (.tmp 26)), none⟩])
 (.seq (.reg [⟨.tmp 28, .r (.mov (.loc 1)), none⟩,
 ⟨.tmp 29, .r (.mov (.loc 2)), none⟩,
 ⟨.tmp 30, .call f1 [.tmp 28, .tmp 29], none⟩,
 ⟨.tmp 27, .r (.mov (.tmp 30)), none⟩,
 ⟨.tmp 31, .r (.ext (.tmp 27) 0), none⟩,
 ⟨.tmp 32, .r (.ext (.tmp 27) 1), none⟩,
 ⟨.loc 11, .r (.mov (.tmp 31)), none⟩,
 ⟨.loc 12, .r (.mov (.tmp 32)), none⟩])
 (.seq (.seq (.reg [⟨.tmp 33, .r (.mov (.loc 8)), none⟩,
 ⟨.tmp 34, .r (.mov (.loc 12)), none⟩,
 ⟨.tmp 35, .r (.bin .neq (.tmp 33) (.tmp 34)), none⟩,
 ⟨.tmp 36, .r (.mov (.tmp 35)), none⟩,
 ⟨.tmp 37, .r (.mov (.loc 10)), some (.tmp 36, false)⟩,
 ⟨.tmp 38, .r (.mov (.loc 12)), some (.tmp 36, false)⟩,
 ⟨.tmp 39, .r (.bin .neq (.tmp 37) (.tmp 38)), some (.tmp 36, false)⟩,
 ⟨.tmp 40, .r (.pick (.tmp 36) (.cst (.bool true)) (.tmp 39)), none⟩,
 ⟨.tmp 41, .r (.mov (.tmp 40)), none⟩,
 ⟨.tmp 42, .r (.mov (.loc 7)), some (.tmp 41, false)⟩,
 ⟨.tmp 43, .r (.mov (.loc 11)), some (.tmp 41, false)⟩,
 ⟨.tmp 44, .call f2 [.tmp 42, .tmp 43], some (.tmp 41, false)⟩,
 ⟨.tmp 45, .r (.not (.tmp 44)), some (.tmp 41, false)⟩,
 ⟨.tmp 46, .r (.pick (.tmp 41) (.cst (.bool true)) (.tmp 45)), none⟩,
 ⟨.tmp 47, .r (.mov (.tmp 46)), none⟩,
 ⟨.tmp 48, .r (.mov (.loc 9)), some (.tmp 47, false)⟩,
 ⟨.tmp 49, .r (.mov (.loc 11)), some (.tmp 47, false)⟩,
 ⟨.tmp 50, .call f2 [.tmp 48, .tmp 49], some (.tmp 47, false)⟩,
 ⟨.tmp 51, .r (.not (.tmp 50)), some (.tmp 47, false)⟩,
 ⟨.loc 52, .r (.pick (.tmp 47) (.cst (.bool true)) (.tmp 51)), none⟩])
 (.cond (.loc 52) (.seq (.reg [⟨.loc 6, .r (.mov (.cst (.bool false))), none⟩])
 .ret)
 .skip))
 (.seq (.reg [⟨.tmp 53, .r (.mov (.loc 7)), none⟩,
 ⟨.tmp 54, .call f3 [.tmp 53], none⟩])
 (.seq (.reg [⟨.tmp 55, .r (.mov (.loc 0)), none⟩,
 ⟨.tmp 56, .call f4 [.tmp 55], none⟩,
 ⟨.loc 13, .r (.mov (.tmp 56)), none⟩])
 (.seq (.reg [⟨.tmp 57, .r (.mov (.loc 1)), none⟩,
 ⟨.tmp 58, .call f5 [.tmp 57], none⟩,
 ⟨.loc 14, .r (.mov (.tmp 58)), none⟩])
 (.seq (.seq (.reg [⟨.tmp 59, .r (.mov (.loc 9)), none⟩,
 ⟨.tmp 60, .r (.mov (.loc 11)), none⟩,
 ⟨.tmp 61, .call f2 [.tmp 59, .tmp 60], none⟩,
 ⟨.tmp 62, .r (.not (.tmp 61)), none⟩,
 ⟨.tmp 63, .r (.mov (.tmp 62)), none⟩,
 ⟨.tmp 64, .r (.mov (.loc 13)), some (.tmp 63, false)⟩,
 ⟨.tmp 65, .r (.mov (.loc 14)), some (.tmp 63, false)⟩,
 ⟨.tmp 66, .call f6 [.tmp 64, .tmp 65], some (.tmp 63, false)⟩,
 ⟨.tmp 67, .r (.not (.tmp 66)), some (.tmp 63, false)⟩,
 ⟨.loc 68, .r (.pick (.tmp 63) (.cst (.bool true)) (.tmp 67)), none⟩])
 (.cond (.loc 68) (.seq (.reg [⟨.loc 6, .r (.mov (.cst (.bool false))), none⟩])
 .ret)
 .skip))
 (.seq (.reg [⟨.tmp 69, .r (.mov (.loc 13)), none⟩,
 ⟨.tmp 70, .call f7 [.tmp 69], none⟩])
 (.seq (.dreg ⟨[0, 1, 0, 7, 15, 31, 63, 31, 159, 415, 927, 2047, 4095, 8191, 16383, 32767, 16383, 81919, 212991, 475135, 1048575, 2097151, 4194303], 0, [⟨0, 0, false, .r (.mov (.loc 0)), none⟩,
 ⟨2, 0, false, .r (.mov (.loc 14)), none⟩,
 ⟨1, 0, true, .call f4 [.tmp 0], none⟩,
 ⟨3, 0, true, .call f6 [.tmp 1, .tmp 2], none⟩,
 ⟨4, 0, false, .r (.mov (.tmp 3)), none⟩,
 ⟨5, 0, false, .r (.mov (.loc 0)), some (.tmp 4, true)⟩,
 ⟨7, 0, false, .r (.mov (.loc 1)), some (.tmp 4, true)⟩,
 ⟨8, 0, false, .r (.chk (.tmp 7)), some (.tmp 4, true)⟩,
 ⟨9, 0, false, .r (.off 0 (.tmp 8)), some (.tmp 4, true)⟩,
 ⟨10, 0, false, .r (.load false 1 (.tmp 9)), some (.tmp 4, true)⟩,
 ⟨6, 0, true, .call f8 [.tmp 5], some (.tmp 4, true)⟩,
 ⟨11, 0, false, .r (.bin .eql (.tmp 6) (.tmp 10)), some (.tmp 4, true)⟩,
 ⟨12, 0, false, .r (.pick (.tmp 4) (.tmp 11) (.cst (.bool false))), none⟩,
 ⟨13, 0, false, .r (.mov (.tmp 12)), none⟩,
 ⟨14, 0, false, .r (.mov (.loc 0)), some (.tmp 13, true)⟩,
 ⟨16, 0, false, .r (.mov (.loc 1)), some (.tmp 13, true)⟩,
 ⟨17, 0, false, .r (.chk (.tmp 16)), some (.tmp 13, true)⟩,
 ⟨18, 0, false, .r (.off 2 (.tmp 17)), some (.tmp 13, true)⟩,
 ⟨19, 0, false, .r (.load false 1 (.tmp 18)), some (.tmp 13, true)⟩,
 ⟨15, 0, true, .call f9 [.tmp 14], some (.tmp 13, true)⟩,
 ⟨20, 0, false, .r (.beq .eql (.tmp 15) (.tmp 19)), some (.tmp 13, true)⟩,
 ⟨21, 0, false, .r (.pick (.tmp 13) (.tmp 20) (.cst (.bool false))), none⟩,
 ⟨22, 0, false, .r (.mov (.tmp 21)), none⟩], [(6, 22)]⟩)
 .ret))))))))))), [(.tmp (.loc 6))]⟩

def c_glebelaw04_All_l0 (f0 : FuncId) : AC := (.seq (.seq (.reg [⟨.tmp 7, .r (.mov (.loc 5)), none⟩,
 ⟨.tmp 8, .r (.mov (.loc 1)), none⟩,
 ⟨.tmp 9, .r (.chk (.tmp 8)), none⟩,
 ⟨.tmp 10, .r (.off 3 (.tmp 9)), none⟩,
 ⟨.tmp 11, .r (.load false 1 (.tmp 10)), none⟩,
 ⟨.tmp 12, .r (.len (.tmp 11)), none⟩,
 ⟨.loc 13, .r (.bin .lss (.tmp 7) (.tmp 12)), none⟩])
 (.cond (.loc 13) .skip
 (.exit 0)))
 (.seq (.block 1 (.seq (.reg [⟨.tmp 16, .r (.mov (.loc 0)), none⟩,
 ⟨.tmp 17, .r (.mov (.loc 1)), none⟩,
 ⟨.tmp 18, .r (.mov (.loc 1)), none⟩,
 ⟨.tmp 19, .r (.chk (.tmp 18)), none⟩,
 ⟨.tmp 20, .r (.off 3 (.tmp 19)), none⟩,
 ⟨.tmp 21, .r (.load false 1 (.tmp 20)), none⟩,
 ⟨.tmp 22, .r (.mov (.loc 5)), none⟩,
 ⟨.tmp 23, .r (.idx 3 (.tmp 21) (.tmp 22)), none⟩,
 ⟨.tmp 24, .r (.off 0 (.tmp 23)), none⟩,
 ⟨.tmp 25, .r (.load false 1 (.tmp 24)), none⟩,
 ⟨.tmp 26, .call f0 [.tmp 16, .tmp 17, .tmp 25], none⟩,
 ⟨.loc 27, .r (.not (.tmp 26)), none⟩])
 (.cond (.loc 27) (.seq (.reg [⟨.loc 4, .r (.mov (.cst (.bool false))), none⟩])
 .ret)
 .skip)))
 (.reg [⟨.tmp 14, .r (.mov (.loc 5)), none⟩,
 ⟨.tmp 15, .r (.bin .add (.tmp 14) (.cst (.int .i64 1))), none⟩,
 ⟨.loc 5, .r (.mov (.tmp 15)), none⟩])))
def c_glebelaw04_All_l1 (f0 : FuncId) : AC := (.seq (.seq (.reg [⟨.tmp 28, .r (.mov (.loc 6)), none⟩,
 ⟨.tmp 29, .r (.mov (.loc 1)), none⟩,
 ⟨.tmp 30, .r (.chk (.tmp 29)), none⟩,
 ⟨.tmp 31, .r (.off 4 (.tmp 30)), none⟩,
 ⟨.tmp 32, .r (.load false 1 (.tmp 31)), none⟩,
 ⟨.tmp 33, .r (.len (.tmp 32)), none⟩,
 ⟨.loc 34, .r (.bin .lss (.tmp 28) (.tmp 33)), none⟩])
 (.cond (.loc 34) .skip
 (.exit 2)))
 (.seq (.block 3 (.seq (.reg [⟨.tmp 37, .r (.mov (.loc 0)), none⟩,
 ⟨.tmp 38, .r (.mov (.loc 1)), none⟩,
 ⟨.tmp 39, .r (.mov (.loc 1)), none⟩,
 ⟨.tmp 40, .r (.chk (.tmp 39)), none⟩,
 ⟨.tmp 41, .r (.off 4 (.tmp 40)), none⟩,
 ⟨.tmp 42, .r (.load false 1 (.tmp 41)), none⟩,
 ⟨.tmp 43, .r (.mov (.loc 6)), none⟩,
 ⟨.tmp 44, .r (.idx 3 (.tmp 42) (.tmp 43)), none⟩,
 ⟨.tmp 45, .r (.off 0 (.tmp 44)), none⟩,
 ⟨.tmp 46, .r (.load false 1 (.tmp 45)), none⟩,
 ⟨.tmp 47, .call f0 [.tmp 37, .tmp 38, .tmp 46], none⟩,
 ⟨.loc 48, .r (.not (.tmp 47)), none⟩])
 (.cond (.loc 48) (.seq (.reg [⟨.loc 4, .r (.mov (.cst (.bool false))), none⟩])
 .ret)
 .skip)))
 (.reg [⟨.tmp 35, .r (.mov (.loc 6)), none⟩,
 ⟨.tmp 36, .r (.bin .add (.tmp 35) (.cst (.int .i64 1))), none⟩,
 ⟨.loc 6, .r (.mov (.tmp 36)), none⟩])))
/-- glebe/glebelaw04.All -/
def c_glebelaw04_All (f0 : FuncId) : AFn := ⟨52, fun s => List.contains [0, 1, 4, 5, 6, 13, 27, 34, 48] s, (.seq (.reg [⟨.loc 4, .r (.mov (.cst (.bool false))), none⟩])
 (.seq (.seq (.reg [⟨.loc 5, .r (.mov (.cst (.int .i64 0))), none⟩])
 (.block 0 (.loop (c_glebelaw04_All_l0 f0))))
 (.seq (.seq (.reg [⟨.loc 6, .r (.mov (.cst (.int .i64 0))), none⟩])
 (.block 2 (.loop (c_glebelaw04_All_l1 f0))))
 (.seq (.reg [⟨.tmp 49, .r (.mov (.loc 0)), none⟩,
 ⟨.tmp 50, .r (.mov (.loc 1)), none⟩,
 ⟨.tmp 51, .call f0 [.tmp 49, .tmp 50, (.cst (.int .i64 0))], none⟩,
 ⟨.loc 4, .r (.mov (.tmp 51)), none⟩])
 .ret)))), [(.tmp (.loc 4))]⟩

end Glb
