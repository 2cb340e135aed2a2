/-
  What functions of the program are, one by one (the functions that they call as parameters), in a form of which something can be shown.
-/
import Derived.Test.YthbhbgnngmfpiaaGlbLibB
set_option linter.unusedSimpArgs false
set_option linter.unusedVariables false
namespace Glb
open Go
set_option maxRecDepth 100000

def c_glebelaw08_CheckBack_l0 (f0 f1 f2 f3 f4 f5 f6 : FuncId) : AC := (.seq (.seq (.reg [⟨.tmp 31, .r (.mov (.loc 9)), none⟩,
 ⟨.tmp 32, .r (.mov (.loc 2)), none⟩,
 ⟨.tmp 33, .r (.len (.tmp 32)), none⟩,
 ⟨.loc 34, .r (.bin .lss (.tmp 31) (.tmp 33)), none⟩])
 (.cond (.loc 34) .skip
 (.exit 0)))
 (.seq (.block 1 (.seq (.reg [⟨.tmp 37, .r (.mov (.loc 7)), none⟩,
 ⟨.tmp 38, .r (.mov (.loc 0)), none⟩,
 ⟨.tmp 39, .r (.mov (.loc 1)), none⟩,
 ⟨.tmp 40, .r (.mov (.loc 2)), none⟩,
 ⟨.tmp 41, .r (.mov (.loc 9)), none⟩,
 ⟨.tmp 42, .r (.idx 1 (.tmp 40) (.tmp 41)), none⟩,
 ⟨.tmp 43, .r (.load false 1 (.tmp 42)), none⟩,
 ⟨.tmp 44, .call f4 [.tmp 37, (.cst (.int .i64 1)), .tmp 38, .tmp 39, .tmp 43], none⟩,
 ⟨.loc 10, .r (.mov (.tmp 44)), none⟩])
 (.seq (.seq (.reg [⟨.tmp 45, .r (.mov (.loc 10)), none⟩,
 ⟨.tmp 46, .r (.bin .eql (.tmp 45) (.cst (.int .i64 0))), none⟩,
 ⟨.tmp 47, .r (.mov (.loc 2)), none⟩,
 ⟨.tmp 48, .r (.mov (.loc 9)), none⟩,
 ⟨.tmp 49, .r (.idx 1 (.tmp 47) (.tmp 48)), none⟩,
 ⟨.tmp 50, .r (.load false 1 (.tmp 49)), none⟩,
 ⟨.tmp 51, .r (.len (.tmp 50)), none⟩,
 ⟨.tmp 52, .r (.mov (.loc 0)), none⟩,
 ⟨.tmp 53, .r (.bin .mul (.tmp 52) (.cst (.int .i64 40))), none⟩,
 ⟨.tmp 54, .r (.bin .leq (.tmp 51) (.tmp 53)), none⟩,
 ⟨.tmp 55, .r (.beq .neq (.tmp 46) (.tmp 54)), none⟩,
 ⟨.tmp 56, .r (.mov (.tmp 55)), none⟩,
 ⟨.tmp 57, .r (.mov (.loc 10)), some (.tmp 56, false)⟩,
 ⟨.tmp 58, .r (.bin .neq (.tmp 57) (.cst (.int .i64 0))), some (.tmp 56, false)⟩,
 ⟨.tmp 59, .r (.mov (.tmp 58)), some (.tmp 56, false)⟩,
 ⟨.tmp 60, .r (.mov (.loc 10)), some (.tmp 59, true)⟩,
 ⟨.tmp 61, .r (.bin .neq (.tmp 60) (.cst (.int .i64 2))), some (.tmp 59, true)⟩,
 ⟨.tmp 62, .r (.pick (.tmp 59) (.tmp 61) (.cst (.bool false))), some (.tmp 56, false)⟩,
 ⟨.loc 63, .r (.pick (.tmp 56) (.cst (.bool true)) (.tmp 62)), none⟩])
 (.cond (.loc 63) (.seq (.reg [⟨.loc 6, .r (.mov (.cst (.bool false))), none⟩])
 .ret)
 .skip))
 (.seq (.seq (.reg [⟨.tmp 64, .r (.mov (.loc 10)), none⟩,
 ⟨.loc 65, .r (.bin .neq (.tmp 64) (.cst (.int .i64 0))), none⟩])
 (.cond (.loc 65) (.exit 1)
 .skip))
 (.seq (.reg [⟨.tmp 67, .r (.mov (.loc 7)), none⟩,
 ⟨.tmp 68, .r (.mov (.loc 0)), none⟩,
 ⟨.tmp 69, .call f5 [.tmp 67, (.cst (.int .i64 1)), .tmp 68], none⟩,
 ⟨.tmp 66, .r (.mov (.tmp 69)), none⟩,
 ⟨.tmp 70, .r (.ext (.tmp 66) 0), none⟩,
 ⟨.tmp 71, .r (.ext (.tmp 66) 1), none⟩,
 ⟨.tmp 72, .r (.ext (.tmp 66) 2), none⟩,
 ⟨.loc 11, .r (.mov (.tmp 70)), none⟩,
 ⟨.loc 12, .r (.mov (.tmp 71)), none⟩,
 ⟨.loc 13, .r (.mov (.tmp 72)), none⟩])
 (.seq (.seq (.reg [⟨.tmp 73, .r (.mov (.loc 13)), none⟩,
 ⟨.tmp 74, .r (.bin .neq (.tmp 73) (.cst (.int .i64 0))), none⟩,
 ⟨.tmp 75, .r (.mov (.tmp 74)), none⟩,
 ⟨.tmp 76, .r (.mov (.loc 12)), some (.tmp 75, false)⟩,
 ⟨.tmp 77, .r (.mov (.loc 1)), some (.tmp 75, false)⟩,
 ⟨.tmp 78, .r (.bin .neq (.tmp 76) (.tmp 77)), some (.tmp 75, false)⟩,
 ⟨.tmp 79, .r (.pick (.tmp 75) (.cst (.bool true)) (.tmp 78)), none⟩,
 ⟨.tmp 80, .r (.mov (.tmp 79)), none⟩,
 ⟨.tmp 81, .r (.mov (.loc 11)), some (.tmp 80, false)⟩,
 ⟨.tmp 82, .r (.mov (.loc 2)), some (.tmp 80, false)⟩,
 ⟨.tmp 83, .r (.mov (.loc 9)), some (.tmp 80, false)⟩,
 ⟨.tmp 84, .r (.idx 1 (.tmp 82) (.tmp 83)), some (.tmp 80, false)⟩,
 ⟨.tmp 85, .r (.load false 1 (.tmp 84)), some (.tmp 80, false)⟩,
 ⟨.tmp 86, .call f6 [.tmp 81, .tmp 85], some (.tmp 80, false)⟩,
 ⟨.tmp 87, .r (.not (.tmp 86)), some (.tmp 80, false)⟩,
 ⟨.tmp 88, .r (.pick (.tmp 80) (.cst (.bool true)) (.tmp 87)), none⟩,
 ⟨.tmp 89, .r (.mov (.tmp 88)), none⟩,
 ⟨.tmp 90, .r (.mov (.loc 7)), some (.tmp 89, false)⟩,
 ⟨.tmp 91, .r (.mov (.loc 0)), some (.tmp 89, false)⟩,
 ⟨.tmp 92, .r (.mov (.loc 1)), some (.tmp 89, false)⟩,
 ⟨.tmp 93, .r (.bin .sub (.tmp 92) (.cst (.int .i64 1))), some (.tmp 89, false)⟩,
 ⟨.tmp 94, .call f4 [.tmp 90, (.cst (.int .i64 1)), .tmp 91, .tmp 93, (.cst .nils)], some (.tmp 89, false)⟩,
 ⟨.tmp 95, .r (.bin .neq (.tmp 94) (.cst (.int .i64 0))), some (.tmp 89, false)⟩,
 ⟨.loc 96, .r (.pick (.tmp 89) (.cst (.bool true)) (.tmp 95)), none⟩])
 (.cond (.loc 96) (.seq (.reg [⟨.loc 6, .r (.mov (.cst (.bool false))), none⟩])
 .ret)
 .skip))
 (.seq (.reg [⟨.tmp 98, .r (.mov (.loc 7)), none⟩,
 ⟨.tmp 99, .r (.mov (.loc 0)), none⟩,
 ⟨.tmp 100, .call f5 [.tmp 98, (.cst (.int .i64 1)), .tmp 99], none⟩,
 ⟨.tmp 97, .r (.mov (.tmp 100)), none⟩,
 ⟨.tmp 101, .r (.ext (.tmp 97) 0), none⟩,
 ⟨.tmp 102, .r (.ext (.tmp 97) 1), none⟩,
 ⟨.tmp 103, .r (.ext (.tmp 97) 2), none⟩,
 ⟨.loc 11, .r (.mov (.tmp 101)), none⟩,
 ⟨.loc 12, .r (.mov (.tmp 102)), none⟩,
 ⟨.loc 13, .r (.mov (.tmp 103)), none⟩])
 (.seq (.seq (.reg [⟨.tmp 104, .r (.mov (.loc 13)), none⟩,
 ⟨.tmp 105, .r (.bin .neq (.tmp 104) (.cst (.int .i64 0))), none⟩,
 ⟨.tmp 106, .r (.mov (.tmp 105)), none⟩,
 ⟨.tmp 107, .r (.mov (.loc 12)), some (.tmp 106, false)⟩,
 ⟨.tmp 108, .r (.mov (.loc 1)), some (.tmp 106, false)⟩,
 ⟨.tmp 109, .r (.bin .neq (.tmp 107) (.tmp 108)), some (.tmp 106, false)⟩,
 ⟨.tmp 110, .r (.pick (.tmp 106) (.cst (.bool true)) (.tmp 109)), none⟩,
 ⟨.tmp 111, .r (.mov (.tmp 110)), none⟩,
 ⟨.tmp 112, .r (.mov (.loc 11)), some (.tmp 111, false)⟩,
 ⟨.tmp 113, .r (.mov (.loc 2)), some (.tmp 111, false)⟩,
 ⟨.tmp 114, .r (.mov (.loc 9)), some (.tmp 111, false)⟩,
 ⟨.tmp 115, .r (.idx 1 (.tmp 113) (.tmp 114)), some (.tmp 111, false)⟩,
 ⟨.tmp 116, .r (.load false 1 (.tmp 115)), some (.tmp 111, false)⟩,
 ⟨.tmp 117, .call f6 [.tmp 112, .tmp 116], some (.tmp 111, false)⟩,
 ⟨.tmp 118, .r (.not (.tmp 117)), some (.tmp 111, false)⟩,
 ⟨.loc 119, .r (.pick (.tmp 111) (.cst (.bool true)) (.tmp 118)), none⟩])
 (.cond (.loc 119) (.seq (.reg [⟨.loc 6, .r (.mov (.cst (.bool false))), none⟩])
 .ret)
 .skip))
 (.reg [⟨.tmp 120, .r (.mov (.loc 1)), none⟩,
 ⟨.tmp 121, .r (.bin .add (.tmp 120) (.cst (.int .i64 1))), none⟩,
 ⟨.loc 1, .r (.mov (.tmp 121)), none⟩])))))))))
 (.reg [⟨.tmp 35, .r (.mov (.loc 9)), none⟩,
 ⟨.tmp 36, .r (.bin .add (.tmp 35) (.cst (.int .i64 1))), none⟩,
 ⟨.loc 9, .r (.mov (.tmp 36)), none⟩])))
/-- glebe/glebelaw08.CheckBack -/
def c_glebelaw08_CheckBack (f0 f1 f2 f3 f4 f5 f6 : FuncId) : AFn := ⟨122, fun s => List.contains [0, 1, 2, 6, 7, 9, 10, 11, 12, 13, 15, 17, 34, 63, 65, 96, 119] s, (.seq (.reg [⟨.loc 6, .r (.mov (.cst (.bool false))), none⟩])
 (.seq (.seq (.reg [⟨.tmp 14, .call f0 [], none⟩,
 ⟨.loc 15, .r (.not (.tmp 14)), none⟩])
 (.cond (.loc 15) (.seq (.reg [⟨.loc 6, .r (.mov (.cst (.bool false))), none⟩])
 .ret)
 .skip))
 (.seq (.seq (.reg [⟨.tmp 16, .r (.mov (.loc 2)), none⟩,
 ⟨.loc 17, .call f1 [.tmp 16], none⟩])
 (.cond (.loc 17) (.seq (.reg [⟨.loc 6, .r (.mov (.cst (.bool true))), none⟩])
 .ret)
 .skip))
 (.seq (.reg [⟨.tmp 18, .r (.mov (.loc 0)), none⟩,
 ⟨.tmp 19, .call f2 [.tmp 18, (.cst (.int .i64 128))], none⟩,
 ⟨.tmp 20, .r (.bin .add (.cst (.int .i64 1)) (.tmp 19)), none⟩,
 ⟨.loc 0, .r (.mov (.tmp 20)), none⟩])
 (.seq (.reg [⟨.tmp 21, .r (.mov (.loc 1)), none⟩,
 ⟨.tmp 22, .call f2 [.tmp 21, (.cst (.int .i64 1073741824))], none⟩,
 ⟨.tmp 23, .r (.bin .add (.cst (.int .i64 2)) (.tmp 22)), none⟩,
 ⟨.loc 1, .r (.mov (.tmp 23)), none⟩])
 (.seq (.reg [⟨.tmp 25, .r (.mov (.loc 0)), none⟩,
 ⟨.tmp 26, .r (.bin .mul (.cst (.int .i64 2)) (.tmp 25)), none⟩,
 ⟨.tmp 27, .r (.bin .add (.tmp 26) (.cst (.int .i64 1))), none⟩,
 ⟨.tmp 28, .call f3 [.tmp 27], none⟩,
 ⟨.tmp 24, .r (.mov (.tmp 28)), none⟩,
 ⟨.tmp 29, .r (.ext (.tmp 24) 0), none⟩,
 ⟨.tmp 30, .r (.ext (.tmp 24) 1), none⟩,
 ⟨.loc 7, .r (.mov (.tmp 29)), none⟩,
 ⟨.tmp 8, .r (.mov (.tmp 30)), none⟩])
 (.seq (.seq (.reg [⟨.loc 9, .r (.mov (.cst (.int .i64 0))), none⟩])
 (.block 0 (.loop (c_glebelaw08_CheckBack_l0 f0 f1 f2 f3 f4 f5 f6))))
 (.seq (.reg [⟨.loc 6, .r (.mov (.cst (.bool true))), none⟩])
 .ret)))))))), [(.tmp (.loc 6))]⟩

/-- glebe/glebelaw08.works -/
def c_glebelaw08_works (f0 f1 f2 f3 f4 : FuncId) : AFn := ⟨50, fun s => List.contains [0, 1, 2, 3, 4, 5, 6, 12] s, (.seq (.reg [⟨.loc 0, .r (.mov (.cst (.bool false))), none⟩])
 (.seq (.reg [⟨.tmp 8, .call f0 [(.cst (.int .i64 10))], none⟩,
 ⟨.tmp 7, .r (.mov (.tmp 8)), none⟩,
 ⟨.tmp 9, .r (.ext (.tmp 7) 0), none⟩,
 ⟨.tmp 10, .r (.ext (.tmp 7) 1), none⟩,
 ⟨.loc 1, .r (.mov (.tmp 9)), none⟩,
 ⟨.loc 2, .r (.mov (.tmp 10)), none⟩])
 (.seq (.seq (.reg [⟨.tmp 11, .r (.mov (.loc 2)), none⟩,
 ⟨.loc 12, .r (.bin .neq (.tmp 11) (.cst (.int .i64 0))), none⟩])
 (.cond (.loc 12) (.seq (.reg [⟨.loc 0, .r (.mov (.cst (.bool false))), none⟩])
 .ret)
 .skip))
 (.seq (.reg [⟨.tmp 13, .r (.mov (.loc 1)), none⟩,
 ⟨.tmp 14, .h (.bsl 1 [(.cst (.int .u8 7))]), none⟩,
 ⟨.tmp 15, .call f1 [.tmp 13, (.cst (.int .i64 1)), (.cst (.int .i64 3)), (.cst (.int .i64 1)), .tmp 14], none⟩,
 ⟨.loc 3, .r (.mov (.tmp 15)), none⟩])
 (.seq (.reg [⟨.tmp 16, .r (.mov (.loc 1)), none⟩,
 ⟨.tmp 17, .call f2 [(.cst (.int .i64 120))], none⟩,
 ⟨.tmp 18, .call f1 [.tmp 16, (.cst (.int .i64 1)), (.cst (.int .i64 3)), (.cst (.int .i64 2)), .tmp 17], none⟩,
 ⟨.loc 4, .r (.mov (.tmp 18)), none⟩])
 (.seq (.reg [⟨.tmp 20, .r (.mov (.loc 1)), none⟩,
 ⟨.tmp 21, .call f3 [.tmp 20, (.cst (.int .i64 1)), (.cst (.int .i64 3))], none⟩,
 ⟨.tmp 19, .r (.mov (.tmp 21)), none⟩,
 ⟨.tmp 22, .r (.ext (.tmp 19) 0), none⟩,
 ⟨.tmp 23, .r (.ext (.tmp 19) 1), none⟩,
 ⟨.tmp 24, .r (.ext (.tmp 19) 2), none⟩,
 ⟨.loc 5, .r (.mov (.tmp 22)), none⟩,
 ⟨.loc 6, .r (.mov (.tmp 23)), none⟩,
 ⟨.loc 2, .r (.mov (.tmp 24)), none⟩])
 (.seq (.reg [⟨.tmp 25, .r (.mov (.loc 3)), none⟩,
 ⟨.tmp 26, .r (.bin .eql (.tmp 25) (.cst (.int .i64 0))), none⟩,
 ⟨.tmp 27, .r (.mov (.tmp 26)), none⟩,
 ⟨.tmp 28, .r (.mov (.loc 4)), some (.tmp 27, true)⟩,
 ⟨.tmp 29, .r (.bin .eql (.tmp 28) (.cst (.int .i64 0))), some (.tmp 27, true)⟩,
 ⟨.tmp 30, .r (.pick (.tmp 27) (.tmp 29) (.cst (.bool false))), none⟩,
 ⟨.tmp 31, .r (.mov (.tmp 30)), none⟩,
 ⟨.tmp 32, .r (.mov (.loc 2)), some (.tmp 31, true)⟩,
 ⟨.tmp 33, .r (.bin .eql (.tmp 32) (.cst (.int .i64 0))), some (.tmp 31, true)⟩,
 ⟨.tmp 34, .r (.pick (.tmp 31) (.tmp 33) (.cst (.bool false))), none⟩,
 ⟨.tmp 35, .r (.mov (.tmp 34)), none⟩,
 ⟨.tmp 36, .r (.mov (.loc 6)), some (.tmp 35, true)⟩,
 ⟨.tmp 37, .r (.bin .eql (.tmp 36) (.cst (.int .i64 2))), some (.tmp 35, true)⟩,
 ⟨.tmp 38, .r (.pick (.tmp 35) (.tmp 37) (.cst (.bool false))), none⟩,
 ⟨.tmp 39, .r (.mov (.tmp 38)), none⟩,
 ⟨.tmp 40, .r (.mov (.loc 5)), some (.tmp 39, true)⟩,
 ⟨.tmp 41, .call f2 [(.cst (.int .i64 120))], some (.tmp 39, true)⟩,
 ⟨.tmp 42, .call f4 [.tmp 40, .tmp 41], some (.tmp 39, true)⟩,
 ⟨.tmp 43, .r (.pick (.tmp 39) (.tmp 42) (.cst (.bool false))), none⟩,
 ⟨.tmp 44, .r (.mov (.tmp 43)), none⟩,
 ⟨.tmp 45, .r (.mov (.loc 1)), some (.tmp 44, true)⟩,
 ⟨.tmp 46, .call f2 [(.cst (.int .i64 121))], some (.tmp 44, true)⟩,
 ⟨.tmp 47, .call f1 [.tmp 45, (.cst (.int .i64 1)), (.cst (.int .i64 3)), (.cst (.int .i64 3)), .tmp 46], some (.tmp 44, true)⟩,
 ⟨.tmp 48, .r (.bin .eql (.tmp 47) (.cst (.int .i64 2))), some (.tmp 44, true)⟩,
 ⟨.tmp 49, .r (.pick (.tmp 44) (.tmp 48) (.cst (.bool false))), none⟩,
 ⟨.loc 0, .r (.mov (.tmp 49)), none⟩])
 .ret))))))), [(.tmp (.loc 0))]⟩

def c_glebelaw08_great_l0 : AC := (.seq (.seq (.reg [⟨.tmp 7, .r (.mov (.loc 3)), none⟩,
 ⟨.tmp 8, .r (.mov (.loc 0)), none⟩,
 ⟨.tmp 9, .r (.len (.tmp 8)), none⟩,
 ⟨.loc 10, .r (.bin .lss (.tmp 7) (.tmp 9)), none⟩])
 (.cond (.loc 10) .skip
 (.exit 0)))
 (.seq (.block 1 (.seq (.reg [⟨.tmp 13, .r (.mov (.loc 0)), none⟩,
 ⟨.tmp 14, .r (.mov (.loc 3)), none⟩,
 ⟨.tmp 15, .r (.idx 1 (.tmp 13) (.tmp 14)), none⟩,
 ⟨.tmp 16, .r (.load false 1 (.tmp 15)), none⟩,
 ⟨.tmp 17, .r (.len (.tmp 16)), none⟩,
 ⟨.loc 18, .r (.bin .gtr (.tmp 17) (.cst (.int .i64 4096))), none⟩])
 (.cond (.loc 18) (.seq (.reg [⟨.loc 2, .r (.mov (.cst (.bool true))), none⟩])
 .ret)
 .skip)))
 (.reg [⟨.tmp 11, .r (.mov (.loc 3)), none⟩,
 ⟨.tmp 12, .r (.bin .add (.tmp 11) (.cst (.int .i64 1))), none⟩,
 ⟨.loc 3, .r (.mov (.tmp 12)), none⟩])))
/-- glebe/glebelaw08.great -/
def c_glebelaw08_great : AFn := ⟨19, fun s => List.contains [0, 2, 3, 6, 10, 18] s, (.seq (.reg [⟨.loc 2, .r (.mov (.cst (.bool false))), none⟩])
 (.seq (.seq (.reg [⟨.tmp 4, .r (.mov (.loc 0)), none⟩,
 ⟨.tmp 5, .r (.len (.tmp 4)), none⟩,
 ⟨.loc 6, .r (.bin .gtr (.tmp 5) (.cst (.int .i64 60))), none⟩])
 (.cond (.loc 6) (.seq (.reg [⟨.loc 2, .r (.mov (.cst (.bool true))), none⟩])
 .ret)
 .skip))
 (.seq (.seq (.reg [⟨.loc 3, .r (.mov (.cst (.int .i64 0))), none⟩])
 (.block 0 (.loop (c_glebelaw08_great_l0))))
 (.seq (.reg [⟨.loc 2, .r (.mov (.cst (.bool false))), none⟩])
 .ret)))), [(.tmp (.loc 2))]⟩

end Glb
