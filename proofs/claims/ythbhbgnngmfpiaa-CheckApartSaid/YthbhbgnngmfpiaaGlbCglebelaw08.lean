/-
  What functions of the program are, one by one (the functions that they call as parameters), in a form of which something can be shown.
-/
import Derived.Test.YthbhbgnngmfpiaaGlbLibB
set_option linter.unusedSimpArgs false
set_option linter.unusedVariables false
namespace Glb
open Go
set_option maxRecDepth 100000

def c_glebelaw08_CheckApart_l0 (f0 f1 f2 f3 f4 f5 f6 f7 : FuncId) : AC := (.seq (.seq (.reg [⟨.tmp 45, .r (.mov (.loc 12)), none⟩,
 ⟨.tmp 46, .r (.mov (.loc 2)), none⟩,
 ⟨.tmp 47, .r (.len (.tmp 46)), none⟩,
 ⟨.tmp 48, .r (.bin .lss (.tmp 45) (.tmp 47)), none⟩,
 ⟨.tmp 49, .r (.mov (.tmp 48)), none⟩,
 ⟨.tmp 50, .r (.mov (.loc 12)), some (.tmp 49, true)⟩,
 ⟨.tmp 51, .r (.mov (.loc 3)), some (.tmp 49, true)⟩,
 ⟨.tmp 52, .r (.len (.tmp 51)), some (.tmp 49, true)⟩,
 ⟨.tmp 53, .r (.bin .lss (.tmp 50) (.tmp 52)), some (.tmp 49, true)⟩,
 ⟨.loc 54, .r (.pick (.tmp 49) (.tmp 53) (.cst (.bool false))), none⟩])
 (.cond (.loc 54) .skip
 (.exit 0)))
 (.seq (.block 1 (.seq (.reg [⟨.tmp 57, .r (.mov (.loc 3)), none⟩,
 ⟨.tmp 58, .r (.mov (.loc 12)), none⟩,
 ⟨.tmp 59, .r (.idx 1 (.tmp 57) (.tmp 58)), none⟩,
 ⟨.tmp 60, .r (.load false 1 (.tmp 59)), none⟩,
 ⟨.tmp 61, .call f3 [.tmp 60, (.cst (.int .i64 194))], none⟩,
 ⟨.loc 13, .r (.mov (.tmp 61)), none⟩])
 (.seq (.seq (.reg [⟨.tmp 62, .r (.mov (.loc 13)), none⟩,
 ⟨.loc 63, .r (.bin .geq (.tmp 62) (.cst (.int .i64 50))), none⟩])
 (.cond (.loc 63) (.reg [⟨.tmp 64, .r (.mov (.loc 13)), none⟩,
 ⟨.tmp 65, .r (.bin .add (.tmp 64) (.cst (.int .i64 206))), none⟩,
 ⟨.loc 13, .r (.mov (.tmp 65)), none⟩])
 .skip))
 (.reg [⟨.tmp 66, .r (.mov (.loc 9)), none⟩,
 ⟨.tmp 67, .r (.mov (.loc 13)), none⟩,
 ⟨.tmp 68, .r (.mov (.loc 2)), none⟩,
 ⟨.tmp 69, .r (.mov (.loc 12)), none⟩,
 ⟨.tmp 70, .r (.idx 1 (.tmp 68) (.tmp 69)), none⟩,
 ⟨.tmp 71, .r (.load false 1 (.tmp 70)), none⟩,
 ⟨.tmp 72, .call f4 [.tmp 66, .tmp 67, .tmp 71], none⟩]))))
 (.reg [⟨.tmp 55, .r (.mov (.loc 12)), none⟩,
 ⟨.tmp 56, .r (.bin .add (.tmp 55) (.cst (.int .i64 1))), none⟩,
 ⟨.loc 12, .r (.mov (.tmp 56)), none⟩])))
/-- glebe/glebelaw08.CheckApart -/
def c_glebelaw08_CheckApart (f0 f1 f2 f3 f4 f5 f6 f7 : FuncId) : AFn := ⟨113, fun s => List.contains [0, 1, 2, 3, 8, 9, 11, 12, 13, 14, 15, 16, 18, 26, 40, 44, 54, 63, 91] s, (.seq (.reg [⟨.loc 8, .r (.mov (.cst (.bool false))), none⟩])
 (.seq (.seq (.reg [⟨.tmp 17, .call f0 [], none⟩,
 ⟨.loc 18, .r (.not (.tmp 17)), none⟩])
 (.cond (.loc 18) (.seq (.reg [⟨.loc 8, .r (.mov (.cst (.bool false))), none⟩])
 .ret)
 .skip))
 (.seq (.seq (.reg [⟨.tmp 19, .r (.mov (.loc 1)), none⟩,
 ⟨.tmp 20, .r (.len (.tmp 19)), none⟩,
 ⟨.tmp 21, .r (.bin .gtr (.tmp 20) (.cst (.int .i64 4096))), none⟩,
 ⟨.tmp 22, .r (.mov (.tmp 21)), none⟩,
 ⟨.tmp 23, .r (.mov (.loc 2)), some (.tmp 22, false)⟩,
 ⟨.tmp 24, .r (.len (.tmp 23)), some (.tmp 22, false)⟩,
 ⟨.tmp 25, .r (.bin .gtr (.tmp 24) (.cst (.int .i64 100))), some (.tmp 22, false)⟩,
 ⟨.loc 26, .r (.pick (.tmp 22) (.cst (.bool true)) (.tmp 25)), none⟩])
 (.cond (.loc 26) (.seq (.reg [⟨.loc 8, .r (.mov (.cst (.bool true))), none⟩])
 .ret)
 .skip))
 (.seq (.reg [⟨.tmp 28, .call f1 [(.cst (.int .i64 400))], none⟩,
 ⟨.tmp 27, .r (.mov (.tmp 28)), none⟩,
 ⟨.tmp 29, .r (.ext (.tmp 27) 0), none⟩,
 ⟨.tmp 30, .r (.ext (.tmp 27) 1), none⟩,
 ⟨.loc 9, .r (.mov (.tmp 29)), none⟩,
 ⟨.tmp 10, .r (.mov (.tmp 30)), none⟩])
 (.seq (.reg [⟨.tmp 31, .r (.mov (.loc 9)), none⟩,
 ⟨.tmp 32, .r (.mov (.loc 0)), none⟩,
 ⟨.tmp 33, .r (.mov (.loc 1)), none⟩,
 ⟨.tmp 34, .call f2 [.tmp 31, (.cst (.int .i64 50)), (.cst (.int .i64 103)), .tmp 32, .tmp 33], none⟩,
 ⟨.loc 11, .r (.mov (.tmp 34)), none⟩])
 (.seq (.seq (.reg [⟨.tmp 35, .r (.mov (.loc 0)), none⟩,
 ⟨.tmp 36, .r (.bin .lss (.tmp 35) (.cst (.int .i64 1))), none⟩,
 ⟨.tmp 37, .r (.mov (.tmp 36)), none⟩,
 ⟨.tmp 38, .r (.mov (.loc 0)), some (.tmp 37, false)⟩,
 ⟨.tmp 39, .r (.bin .gtr (.tmp 38) (.cst (.int .i64 1099511627776))), some (.tmp 37, false)⟩,
 ⟨.loc 40, .r (.pick (.tmp 37) (.cst (.bool true)) (.tmp 39)), none⟩])
 (.cond (.loc 40) (.seq (.reg [⟨.tmp 41, .r (.mov (.loc 11)), none⟩,
 ⟨.tmp 42, .r (.bin .eql (.tmp 41) (.cst (.int .i64 3))), none⟩,
 ⟨.loc 8, .r (.mov (.tmp 42)), none⟩])
 .ret)
 .skip))
 (.seq (.seq (.reg [⟨.tmp 43, .r (.mov (.loc 11)), none⟩,
 ⟨.loc 44, .r (.bin .neq (.tmp 43) (.cst (.int .i64 0))), none⟩])
 (.cond (.loc 44) (.seq (.reg [⟨.loc 8, .r (.mov (.cst (.bool false))), none⟩])
 .ret)
 .skip))
 (.seq (.seq (.reg [⟨.loc 12, .r (.mov (.cst (.int .i64 0))), none⟩])
 (.block 0 (.loop (c_glebelaw08_CheckApart_l0 f0 f1 f2 f3 f4 f5 f6 f7))))
 (.seq (.reg [⟨.tmp 74, .r (.mov (.loc 9)), none⟩,
 ⟨.tmp 75, .call f5 [.tmp 74, (.cst (.int .i64 50)), (.cst (.int .i64 103))], none⟩,
 ⟨.tmp 73, .r (.mov (.tmp 75)), none⟩,
 ⟨.tmp 76, .r (.ext (.tmp 73) 0), none⟩,
 ⟨.tmp 77, .r (.ext (.tmp 73) 1), none⟩,
 ⟨.tmp 78, .r (.ext (.tmp 73) 2), none⟩,
 ⟨.loc 14, .r (.mov (.tmp 76)), none⟩,
 ⟨.loc 15, .r (.mov (.tmp 77)), none⟩,
 ⟨.loc 16, .r (.mov (.tmp 78)), none⟩])
 (.seq (.seq (.reg [⟨.tmp 79, .r (.mov (.loc 16)), none⟩,
 ⟨.tmp 80, .r (.bin .neq (.tmp 79) (.cst (.int .i64 0))), none⟩,
 ⟨.tmp 81, .r (.mov (.tmp 80)), none⟩,
 ⟨.tmp 82, .r (.mov (.loc 15)), some (.tmp 81, false)⟩,
 ⟨.tmp 83, .r (.mov (.loc 0)), some (.tmp 81, false)⟩,
 ⟨.tmp 84, .r (.bin .neq (.tmp 82) (.tmp 83)), some (.tmp 81, false)⟩,
 ⟨.tmp 85, .r (.pick (.tmp 81) (.cst (.bool true)) (.tmp 84)), none⟩,
 ⟨.tmp 86, .r (.mov (.tmp 85)), none⟩,
 ⟨.tmp 87, .r (.mov (.loc 14)), some (.tmp 86, false)⟩,
 ⟨.tmp 88, .r (.mov (.loc 1)), some (.tmp 86, false)⟩,
 ⟨.tmp 89, .call f6 [.tmp 87, .tmp 88], some (.tmp 86, false)⟩,
 ⟨.tmp 90, .r (.not (.tmp 89)), some (.tmp 86, false)⟩,
 ⟨.loc 91, .r (.pick (.tmp 86) (.cst (.bool true)) (.tmp 90)), none⟩])
 (.cond (.loc 91) (.seq (.reg [⟨.loc 8, .r (.mov (.cst (.bool false))), none⟩])
 .ret)
 .skip))
 (.seq (.reg [⟨.tmp 92, .r (.mov (.loc 9)), none⟩,
 ⟨.tmp 93, .h (.bsl 1 [(.cst (.int .i64 2)), (.cst (.int .i64 1)), (.cst (.int .i64 0)), (.cst (.int .i64 2))]), none⟩,
 ⟨.tmp 94, .call f7 [.tmp 92, .tmp 93], none⟩])
 (.seq (.reg [⟨.tmp 96, .r (.mov (.loc 9)), none⟩,
 ⟨.tmp 97, .call f5 [.tmp 96, (.cst (.int .i64 50)), (.cst (.int .i64 103))], none⟩,
 ⟨.tmp 95, .r (.mov (.tmp 97)), none⟩,
 ⟨.tmp 98, .r (.ext (.tmp 95) 0), none⟩,
 ⟨.tmp 99, .r (.ext (.tmp 95) 1), none⟩,
 ⟨.tmp 100, .r (.ext (.tmp 95) 2), none⟩,
 ⟨.loc 14, .r (.mov (.tmp 98)), none⟩,
 ⟨.loc 15, .r (.mov (.tmp 99)), none⟩,
 ⟨.loc 16, .r (.mov (.tmp 100)), none⟩])
 (.seq (.reg [⟨.tmp 101, .r (.mov (.loc 16)), none⟩,
 ⟨.tmp 102, .r (.bin .eql (.tmp 101) (.cst (.int .i64 0))), none⟩,
 ⟨.tmp 103, .r (.mov (.tmp 102)), none⟩,
 ⟨.tmp 104, .r (.mov (.loc 15)), some (.tmp 103, true)⟩,
 ⟨.tmp 105, .r (.mov (.loc 0)), some (.tmp 103, true)⟩,
 ⟨.tmp 106, .r (.bin .eql (.tmp 104) (.tmp 105)), some (.tmp 103, true)⟩,
 ⟨.tmp 107, .r (.pick (.tmp 103) (.tmp 106) (.cst (.bool false))), none⟩,
 ⟨.tmp 108, .r (.mov (.tmp 107)), none⟩,
 ⟨.tmp 109, .r (.mov (.loc 14)), some (.tmp 108, true)⟩,
 ⟨.tmp 110, .r (.mov (.loc 1)), some (.tmp 108, true)⟩,
 ⟨.tmp 111, .call f6 [.tmp 109, .tmp 110], some (.tmp 108, true)⟩,
 ⟨.tmp 112, .r (.pick (.tmp 108) (.tmp 111) (.cst (.bool false))), none⟩,
 ⟨.loc 8, .r (.mov (.tmp 112)), none⟩])
 .ret))))))))))))), [(.tmp (.loc 8))]⟩

/-- glebe/glebelaw08.works -/
def c_glebelaw08_works (f0 f1 f2 f3 f4 : FuncId) : AFn := ⟨50, fun s => List.contains [0, 1, 2, 3, 4, 5, 6, 12] s, (.seq (.reg [⟨.loc 0, .r (.mov (.cst (.bool false))), none⟩])
 (.seq (.reg [⟨.tmp 8, .call f0 [(.cst (.int .i64 10))], none⟩,
 ⟨.tmp 7, .r (.mov (.tmp 8)), none⟩,
 ⟨.tmp 9, .r (.ext (.tmp 7) 0), none⟩,
 ⟨.tmp 10, .r (.ext (.tmp 7) 1), none⟩,
 ⟨.loc 1, .r (.mov (.tmp 9)), none⟩,
 ⟨.loc 2, .r (.mov (.tmp 10)), none⟩])
 (.seq (.seq (.reg [⟨.tmp 11, .r (.mov (.loc 2)), none⟩,
 ⟨.loc 12, .r (.bin .neq (.tmp 11) (.cst (.int .i64 0))), none⟩])
 (.cond (.loc 12) (.seq (.reg [⟨.loc 0, .r (.mov (.cst (.bool false))), none⟩])
 .ret)
 .skip))
 (.seq (.reg [⟨.tmp 13, .r (.mov (.loc 1)), none⟩,
 ⟨.tmp 14, .h (.bsl 1 [(.cst (.int .u8 7))]), none⟩,
 ⟨.tmp 15, .call f1 [.tmp 13, (.cst (.int .i64 1)), (.cst (.int .i64 3)), (.cst (.int .i64 1)), .tmp 14], none⟩,
 ⟨.loc 3, .r (.mov (.tmp 15)), none⟩])
 (.seq (.reg [⟨.tmp 16, .r (.mov (.loc 1)), none⟩,
 ⟨.tmp 17, .call f2 [(.cst (.int .i64 120))], none⟩,
 ⟨.tmp 18, .call f1 [.tmp 16, (.cst (.int .i64 1)), (.cst (.int .i64 3)), (.cst (.int .i64 2)), .tmp 17], none⟩,
 ⟨.loc 4, .r (.mov (.tmp 18)), none⟩])
 (.seq (.reg [⟨.tmp 20, .r (.mov (.loc 1)), none⟩,
 ⟨.tmp 21, .call f3 [.tmp 20, (.cst (.int .i64 1)), (.cst (.int .i64 3))], none⟩,
 ⟨.tmp 19, .r (.mov (.tmp 21)), none⟩,
 ⟨.tmp 22, .r (.ext (.tmp 19) 0), none⟩,
 ⟨.tmp 23, .r (.ext (.tmp 19) 1), none⟩,
 ⟨.tmp 24, .r (.ext (.tmp 19) 2), none⟩,
 ⟨.loc 5, .r (.mov (.tmp 22)), none⟩,
 ⟨.loc 6, .r (.mov (.tmp 23)), none⟩,
 ⟨.loc 2, .r (.mov (.tmp 24)), none⟩])
 (.seq (.reg [⟨.tmp 25, .r (.mov (.loc 3)), none⟩,
 ⟨.tmp 26, .r (.bin .eql (.tmp 25) (.cst (.int .i64 0))), none⟩,
 ⟨.tmp 27, .r (.mov (.tmp 26)), none⟩,
 ⟨.tmp 28, .r (.mov (.loc 4)), some (.tmp 27, true)⟩,
 ⟨.tmp 29, .r (.bin .eql (.tmp 28) (.cst (.int .i64 0))), some (.tmp 27, true)⟩,
 ⟨.tmp 30, .r (.pick (.tmp 27) (.tmp 29) (.cst (.bool false))), none⟩,
 ⟨.tmp 31, .r (.mov (.tmp 30)), none⟩,
 ⟨.tmp 32, .r (.mov (.loc 2)), some (.tmp 31, true)⟩,
 ⟨.tmp 33, .r (.bin .eql (.tmp 32) (.cst (.int .i64 0))), some (.tmp 31, true)⟩,
 ⟨.tmp 34, .r (.pick (.tmp 31) (.tmp 33) (.cst (.bool false))), none⟩,
 ⟨.tmp 35, .r (.mov (.tmp 34)), none⟩,
 ⟨.tmp 36, .r (.mov (.loc 6)), some (.tmp 35, true)⟩,
 ⟨.tmp 37, .r (.bin .eql (.tmp 36) (.cst (.int .i64 2))), some (.tmp 35, true)⟩,
 ⟨.tmp 38, .r (.pick (.tmp 35) (.tmp 37) (.cst (.bool false))), none⟩,
 ⟨.tmp 39, .r (.mov (.tmp 38)), none⟩,
 ⟨.tmp 40, .r (.mov (.loc 5)), some (.tmp 39, true)⟩,
 ⟨.tmp 41, .call f2 [(.cst (.int .i64 120))], some (.tmp 39, true)⟩,
 ⟨.tmp 42, .call f4 [.tmp 40, .tmp 41], some (.tmp 39, true)⟩,
 ⟨.tmp 43, .r (.pick (.tmp 39) (.tmp 42) (.cst (.bool false))), none⟩,
 ⟨.tmp 44, .r (.mov (.tmp 43)), none⟩,
 ⟨.tmp 45, .r (.mov (.loc 1)), some (.tmp 44, true)⟩,
 ⟨.tmp 46, .call f2 [(.cst (.int .i64 121))], some (.tmp 44, true)⟩,
 ⟨.tmp 47, .call f1 [.tmp 45, (.cst (.int .i64 1)), (.cst (.int .i64 3)), (.cst (.int .i64 3)), .tmp 46], some (.tmp 44, true)⟩,
 ⟨.tmp 48, .r (.bin .eql (.tmp 47) (.cst (.int .i64 2))), some (.tmp 44, true)⟩,
 ⟨.tmp 49, .r (.pick (.tmp 44) (.tmp 48) (.cst (.bool false))), none⟩,
 ⟨.loc 0, .r (.mov (.tmp 49)), none⟩])
 .ret))))))), [(.tmp (.loc 0))]⟩

end Glb
