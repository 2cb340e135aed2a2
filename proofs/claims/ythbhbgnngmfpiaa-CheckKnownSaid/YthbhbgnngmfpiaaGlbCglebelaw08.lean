/-
  What functions of the program are, one by one (the functions that they call as parameters), in a form of which something can be shown.
-/
import Derived.Test.YthbhbgnngmfpiaaGlbLibB
set_option linter.unusedSimpArgs false
set_option linter.unusedVariables false
namespace Glb
open Go
set_option maxRecDepth 100000

def c_glebelaw08_CheckApart_l0 (f0 f1 f2 f3 f4 f5 f6 f7 : FuncId) : AC := (.seq (.seq (.reg [⟨.tmp 45, .r (.mov (.loc 12)), none⟩,
 ⟨.tmp 46, .r (.mov (.loc 2)), none⟩,
 ⟨.tmp 47, .r (.len (.tmp 46)), none⟩,
 ⟨.tmp 48, .r (.bin .lss (.tmp 45) (.tmp 47)), none⟩,
 ⟨.tmp 49, .r (.mov (.tmp 48)), none⟩,
 ⟨.tmp 50, .r (.mov (.loc 12)), some (.tmp 49, true)⟩,
 ⟨.tmp 51, .r (.mov (.loc 3)), some (.tmp 49, true)⟩,
 ⟨.tmp 52, .r (.len (.tmp 51)), some (.tmp 49, true)⟩,
 ⟨.tmp 53, .r (.bin .lss (.tmp 50) (.tmp 52)), some (.tmp 49, true)⟩,
 ⟨.loc 54, .r (.pick (.tmp 49) (.tmp 53) (.cst (.bool false))), none⟩])
 (.cond (.loc 54) .skip
 (.exit 0)))
 (.seq (.block 1 (.seq (.reg [⟨.tmp 57, .r (.mov (.loc 3)), none⟩,
 ⟨.tmp 58, .r (.mov (.loc 12)), none⟩,
 ⟨.tmp 59, .r (.idx 1 (.tmp 57) (.tmp 58)), none⟩,
 ⟨.tmp 60, .r (.load false 1 (.tmp 59)), none⟩,
 ⟨.tmp 61, .call f3 [.tmp 60, (.cst (.int .i64 194))], none⟩,
 ⟨.loc 13, .r (.mov (.tmp 61)), none⟩])
 (.seq (.seq (.reg [⟨.tmp 62, .r (.mov (.loc 13)), none⟩,
 ⟨.loc 63, .r (.bin .geq (.tmp 62) (.cst (.int .i64 50))), none⟩])
 (.cond (.loc 63) (.reg [⟨.tmp 64, .r (.mov (.loc 13)), none⟩,
 ⟨.tmp 65, .r (.bin .add (.tmp 64) (.cst (.int .i64 206))), none⟩,
 ⟨.loc 13, .r (.mov (.tmp 65)), none⟩])
 .skip))
 (.reg [⟨.tmp 66, .r (.mov (.loc 9)), none⟩,
 ⟨.tmp 67, .r (.mov (.loc 13)), none⟩,
 ⟨.tmp 68, .r (.mov (.loc 2)), none⟩,
 ⟨.tmp 69, .r (.mov (.loc 12)), none⟩,
 ⟨.tmp 70, .r (.idx 1 (.tmp 68) (.tmp 69)), none⟩,
 ⟨.tmp 71, .r (.load false 1 (.tmp 70)), none⟩,
 ⟨.tmp 72, .call f4 [.tmp 66, .tmp 67, .tmp 71], none⟩]))))
 (.reg [⟨.tmp 55, .r (.mov (.loc 12)), none⟩,
 ⟨.tmp 56, .r (.bin .add (.tmp 55) (.cst (.int .i64 1))), none⟩,
 ⟨.loc 12, .r (.mov (.tmp 56)), none⟩])))
/-- glebe/glebelaw08.CheckApart -/
def c_glebelaw08_CheckApart (f0 f1 f2 f3 f4 f5 f6 f7 : FuncId) : AFn := ⟨113, fun s => List.contains [0, 1, 2, 3, 8, 9, 11, 12, 13, 14, 15, 16, 18, 26, 40, 44, 54, 63, 91] s, (.seq (.reg [⟨.loc 8, .r (.mov (.cst (.bool false))), none⟩])
 (.seq (.seq (.reg [⟨.tmp 17, .call f0 [], none⟩,
 ⟨.loc 18, .r (.not (.tmp 17)), none⟩])
 (.cond (.loc 18) (.seq (.reg [⟨.loc 8, .r (.mov (.cst (.bool false))), none⟩])
 .ret)
 .skip))
 (.seq (.seq (.reg [⟨.tmp 19, .r (.mov (.loc 1)), none⟩,
 ⟨.tmp 20, .r (.len (.tmp 19)), none⟩,
 ⟨.tmp 21, .r (.bin .gtr (.tmp 20) (.cst (.int .i64 4096))), none⟩,
 ⟨.tmp 22, .r (.mov (.tmp 21)), none⟩,
 ⟨.tmp 23, .r (.mov (.loc 2)), some (.tmp 22, false)⟩,
 ⟨.tmp 24, .r (.len (.tmp 23)), some (.tmp 22, false)⟩,
 ⟨.tmp 25, .r (.bin .gtr (.tmp 24) (.cst (.int .i64 100))), some (.tmp 22, false)⟩,
 ⟨.loc 26, .r (.pick (.tmp 22) (.cst (.bool true)) (.tmp 25)), none⟩])
 (.cond (.loc 26) (.seq (.reg [⟨.loc 8, .r (.mov (.cst (.bool true))), none⟩])
 .ret)
 .skip))
 (.seq (.reg [⟨.tmp 28, .call f1 [(.cst (.int .i64 400))], none⟩,
 ⟨.tmp 27, .r (.mov (.tmp 28)), none⟩,
 ⟨.tmp 29, .r (.ext (.tmp 27) 0), none⟩,
 ⟨.tmp 30, .r (.ext (.tmp 27) 1), none⟩,
 ⟨.loc 9, .r (.mov (.tmp 29)), none⟩,
 ⟨.tmp 10, .r (.mov (.tmp 30)), none⟩])
 (.seq (.reg [⟨.tmp 31, .r (.mov (.loc 9)), none⟩,
 ⟨.tmp 32, .r (.mov (.loc 0)), none⟩,
 ⟨.tmp 33, .r (.mov (.loc 1)), none⟩,
 ⟨.tmp 34, .call f2 [.tmp 31, (.cst (.int .i64 50)), (.cst (.int .i64 103)), .tmp 32, .tmp 33], none⟩,
 ⟨.loc 11, .r (.mov (.tmp 34)), none⟩])
 (.seq (.seq (.reg [⟨.tmp 35, .r (.mov (.loc 0)), none⟩,
 ⟨.tmp 36, .r (.bin .lss (.tmp 35) (.cst (.int .i64 1))), none⟩,
 ⟨.tmp 37, .r (.mov (.tmp 36)), none⟩,
 ⟨.tmp 38, .r (.mov (.loc 0)), some (.tmp 37, false)⟩,
 ⟨.tmp 39, .r (.bin .gtr (.tmp 38) (.cst (.int .i64 1099511627776))), some (.tmp 37, false)⟩,
 ⟨.loc 40, .r (.pick (.tmp 37) (.cst (.bool true)) (.tmp 39)), none⟩])
 (.cond (.loc 40) (.seq (.reg [⟨.tmp 41, .r (.mov (.loc 11)), none⟩,
 ⟨.tmp 42, .r (.bin .eql (.tmp 41) (.cst (.int .i64 3))), none⟩,
 ⟨.loc 8, .r (.mov (.tmp 42)), none⟩])
 .ret)
 .skip))
 (.seq (.seq (.reg [⟨.tmp 43, .r (.mov (.loc 11)), none⟩,
 ⟨.loc 44, .r (.bin .neq (.tmp 43) (.cst (.int .i64 0))), none⟩])
 (.cond (.loc 44) (.seq (.reg [⟨.loc 8, .r (.mov (.cst (.bool false))), none⟩])
 .ret)
 .skip))
 (.seq (.seq (.reg [⟨.loc 12, .r (.mov (.cst (.int .i64 0))), none⟩])
 (.block 0 (.loop (c_glebelaw08_CheckApart_l0 f0 f1 f2 f3 f4 f5 f6 f7))))
 (.seq (.reg [⟨.tmp 74, .r (.mov (.loc 9)), none⟩,
 ⟨.tmp 75, .call f5 [.tmp 74, (.cst (.int .i64 50)), (.cst (.int .i64 103))], none⟩,
 ⟨.tmp 73, .r (.mov (.tmp 75)), none⟩,
 ⟨.tmp 76, .r (.ext (.tmp 73) 0), none⟩,
 ⟨.tmp 77, .r (.ext (.tmp 73) 1), none⟩,
 ⟨.tmp 78, .r (.ext (.tmp 73) 2), none⟩,
 ⟨.loc 14, .r (.mov (.tmp 76)), none⟩,
 ⟨.loc 15, .r (.mov (.tmp 77)), none⟩,
 ⟨.loc 16, .r (.mov (.tmp 78)), none⟩])
 (.seq (.seq (.reg [⟨.tmp 79, .r (.mov (.loc 16)), none⟩,
 ⟨.tmp 80, .r (.bin .neq (.tmp 79) (.cst (.int .i64 0))), none⟩,
 ⟨.tmp 81, .r (.mov (.tmp 80)), none⟩,
 ⟨.tmp 82, .r (.mov (.loc 15)), some (.tmp 81, false)⟩,
 ⟨.tmp 83, .r (.mov (.loc 0)), some (.tmp 81, false)⟩,
 ⟨.tmp 84, .r (.bin .neq (.tmp 82) (.tmp 83)), some (.tmp 81, false)⟩,
 ⟨.tmp 85, .r (.pick (.tmp 81) (.cst (.bool true)) (.tmp 84)), none⟩,
 ⟨.tmp 86, .r (.mov (.tmp 85)), none⟩,
 ⟨.tmp 87, .r (.mov (.loc 14)), some (.tmp 86, false)⟩,
 ⟨.tmp 88, .r (.mov (.loc 1)), some (.tmp 86, false)⟩,
 ⟨.tmp 89, .call f6 [.tmp 87, .tmp 88], some (.tmp 86, false)⟩,
 ⟨.tmp 90, .r (.not (.tmp 89)), some (.tmp 86, false)⟩,
 ⟨.loc 91, .r (.pick (.tmp 86) (.cst (.bool true)) (.tmp 90)), none⟩])
 (.cond (.loc 91) (.seq (.reg [⟨.loc 8, .r (.mov (.cst (.bool false))), none⟩])
 .ret)
 .skip))
 (.seq (.reg [⟨.tmp 92, .r (.mov (.loc 9)), none⟩,
 ⟨.tmp 93, .h (.bsl 1 [(.cst (.int .i64 2)), (.cst (.int .i64 1)), (.cst (.int .i64 0)), (.cst (.int .i64 2))]), none⟩,
 ⟨.tmp 94, .call f7 [.tmp 92, .tmp 93], none⟩])
 (.seq (.reg [⟨.tmp 96, .r (.mov (.loc 9)), none⟩,
 ⟨.tmp 97, .call f5 [.tmp 96, (.cst (.int .i64 50)), (.cst (.int .i64 103))], none⟩,
 ⟨.tmp 95, .r (.mov (.tmp 97)), none⟩,
 ⟨.tmp 98, .r (.ext (.tmp 95) 0), none⟩,
 ⟨.tmp 99, .r (.ext (.tmp 95) 1), none⟩,
 ⟨.tmp 100, .r (.ext (.tmp 95) 2), none⟩,
 ⟨.loc 14, .r (.mov (.tmp 98)), none⟩,
 ⟨.loc 15, .r (.mov (.tmp 99)), none⟩,
 ⟨.loc 16, .r (.mov (.tmp 100)), none⟩])
 (.seq (.reg [⟨.tmp 101, .r (.mov (.loc 16)), none⟩,
 ⟨.tmp 102, .r (.bin .eql (.tmp 101) (.cst (.int .i64 0))), none⟩,
 ⟨.tmp 103, .r (.mov (.tmp 102)), none⟩,
 ⟨.tmp 104, .r (.mov (.loc 15)), some (.tmp 103, true)⟩,
 ⟨.tmp 105, .r (.mov (.loc 0)), some (.tmp 103, true)⟩,
 ⟨.tmp 106, .r (.bin .eql (.tmp 104) (.tmp 105)), some (.tmp 103, true)⟩,
 ⟨.tmp 107, .r (.pick (.tmp 103) (.tmp 106) (.cst (.bool false))), none⟩,
 ⟨.tmp 108, .r (.mov (.tmp 107)), none⟩,
 ⟨.tmp 109, .r (.mov (.loc 14)), some (.tmp 108, true)⟩,
 ⟨.tmp 110, .r (.mov (.loc 1)), some (.tmp 108, true)⟩,
 ⟨.tmp 111, .call f6 [.tmp 109, .tmp 110], some (.tmp 108, true)⟩,
 ⟨.tmp 112, .r (.pick (.tmp 108) (.tmp 111) (.cst (.bool false))), none⟩,
 ⟨.loc 8, .r (.mov (.tmp 112)), none⟩])
 .ret))))))))))))), [(.tmp (.loc 8))]⟩

def c_glebelaw08_CheckLasts_l0 (f0 f1 f2 f3 f4 f5 f6 f7 f8 f9 : FuncId) : AC := (.seq (.seq (.reg [⟨.tmp 33, .r (.mov (.loc 13)), none⟩,
 ⟨.tmp 34, .r (.mov (.loc 1)), none⟩,
 ⟨.tmp 35, .r (.len (.tmp 34)), none⟩,
 ⟨.loc 36, .r (.bin .lss (.tmp 33) (.tmp 35)), none⟩])
 (.cond (.loc 36) .skip
 (.exit 0)))
 (.seq (.block 1 (.seq (.seq (.reg [⟨.tmp 39, .r (.mov (.loc 13)), none⟩,
 ⟨.tmp 40, .r (.mov (.loc 2)), none⟩,
 ⟨.tmp 41, .r (.len (.tmp 40)), none⟩,
 ⟨.loc 42, .r (.bin .lss (.tmp 39) (.tmp 41)), none⟩])
 (.cond (.loc 42) (.reg [⟨.tmp 43, .r (.mov (.loc 9)), none⟩,
 ⟨.tmp 44, .r (.mov (.loc 2)), none⟩,
 ⟨.tmp 45, .r (.mov (.loc 13)), none⟩,
 ⟨.tmp 46, .r (.idx 1 (.tmp 44) (.tmp 45)), none⟩,
 ⟨.tmp 47, .r (.load false 1 (.tmp 46)), none⟩,
 ⟨.tmp 48, .r (.mov (.loc 0)), none⟩,
 ⟨.tmp 49, .r (.bin .add (.tmp 48) (.cst (.int .i64 4))), none⟩,
 ⟨.tmp 50, .call f2 [.tmp 47, .tmp 49], none⟩,
 ⟨.tmp 51, .call f4 [.tmp 43, .tmp 50], none⟩])
 .skip))
 (.seq (.reg [⟨.tmp 52, .r (.mov (.loc 9)), none⟩,
 ⟨.tmp 53, .r (.mov (.loc 0)), none⟩,
 ⟨.tmp 54, .r (.mov (.loc 12)), none⟩,
 ⟨.tmp 55, .r (.bin .add (.tmp 54) (.cst (.int .i64 1))), none⟩,
 ⟨.tmp 56, .r (.mov (.loc 1)), none⟩,
 ⟨.tmp 57, .r (.mov (.loc 13)), none⟩,
 ⟨.tmp 58, .r (.idx 1 (.tmp 56) (.tmp 57)), none⟩,
 ⟨.tmp 59, .r (.load false 1 (.tmp 58)), none⟩,
 ⟨.tmp 60, .call f5 [.tmp 52, (.cst (.int .i64 2)), .tmp 53, .tmp 55, .tmp 59], none⟩,
 ⟨.loc 14, .r (.mov (.tmp 60)), none⟩])
 (.seq (.seq (.reg [⟨.tmp 61, .r (.mov (.loc 14)), none⟩,
 ⟨.loc 62, .r (.bin .eql (.tmp 61) (.cst (.int .i64 0))), none⟩])
 (.cond (.loc 62) (.seq (.reg [⟨.tmp 63, .r (.mov (.loc 1)), none⟩,
 ⟨.tmp 64, .r (.mov (.loc 13)), none⟩,
 ⟨.tmp 65, .r (.idx 1 (.tmp 63) (.tmp 64)), none⟩,
 ⟨.tmp 66, .r (.load false 1 (.tmp 65)), none⟩,
 ⟨.loc 11, .r (.mov (.tmp 66)), none⟩])
 (.reg [⟨.tmp 67, .r (.mov (.loc 12)), none⟩,
 ⟨.tmp 68, .r (.bin .add (.tmp 67) (.cst (.int .i64 1))), none⟩,
 ⟨.loc 12, .r (.mov (.tmp 68)), none⟩]))
 (.seq (.reg [⟨.tmp 69, .r (.mov (.loc 14)), none⟩,
 ⟨.tmp 70, .r (.bin .neq (.tmp 69) (.cst (.int .i64 2))), none⟩,
 ⟨.tmp 71, .r (.mov (.tmp 70)), none⟩,
 ⟨.tmp 72, .r (.mov (.loc 14)), some (.tmp 71, true)⟩,
 ⟨.tmp 73, .r (.bin .neq (.tmp 72) (.cst (.int .i64 10))), some (.tmp 71, true)⟩,
 ⟨.tmp 74, .r (.pick (.tmp 71) (.tmp 73) (.cst (.bool false))), none⟩,
 ⟨.tmp 75, .r (.mov (.tmp 74)), none⟩,
 ⟨.tmp 76, .r (.mov (.loc 14)), some (.tmp 75, false)⟩,
 ⟨.tmp 77, .r (.bin .eql (.tmp 76) (.cst (.int .i64 2))), some (.tmp 75, false)⟩,
 ⟨.tmp 78, .r (.mov (.loc 1)), some (.tmp 75, false)⟩,
 ⟨.tmp 79, .r (.mov (.loc 13)), some (.tmp 75, false)⟩,
 ⟨.tmp 80, .r (.idx 1 (.tmp 78) (.tmp 79)), some (.tmp 75, false)⟩,
 ⟨.tmp 81, .r (.load false 1 (.tmp 80)), some (.tmp 75, false)⟩,
 ⟨.tmp 82, .r (.len (.tmp 81)), some (.tmp 75, false)⟩,
 ⟨.tmp 83, .r (.mov (.loc 0)), some (.tmp 75, false)⟩,
 ⟨.tmp 84, .r (.bin .mul (.tmp 83) (.cst (.int .i64 40))), some (.tmp 75, false)⟩,
 ⟨.tmp 85, .r (.bin .gtr (.tmp 82) (.tmp 84)), some (.tmp 75, false)⟩,
 ⟨.tmp 86, .r (.beq .neq (.tmp 77) (.tmp 85)), some (.tmp 75, false)⟩,
 ⟨.loc 87, .r (.pick (.tmp 75) (.cst (.bool true)) (.tmp 86)), none⟩])
 (.cond (.loc 87) (.seq (.reg [⟨.loc 8, .r (.mov (.cst (.bool false))), none⟩])
 .ret)
 .skip))))
 (.seq (.seq (.reg [⟨.tmp 88, .r (.mov (.loc 13)), none⟩,
 ⟨.tmp 89, .r (.mov (.loc 3)), none⟩,
 ⟨.tmp 90, .r (.len (.tmp 89)), none⟩,
 ⟨.tmp 91, .r (.bin .lss (.tmp 88) (.tmp 90)), none⟩,
 ⟨.tmp 92, .r (.mov (.tmp 91)), none⟩,
 ⟨.tmp 93, .r (.mov (.loc 9)), some (.tmp 92, false)⟩,
 ⟨.tmp 94, .call f6 [.tmp 93], some (.tmp 92, false)⟩,
 ⟨.loc 95, .r (.pick (.tmp 92) (.cst (.bool true)) (.tmp 94)), none⟩])
 (.cond (.loc 95) (.seq (.reg [⟨.loc 15, .r (.mov (.cst .nils)), none⟩])
 (.seq (.seq (.reg [⟨.tmp 96, .r (.mov (.loc 13)), none⟩,
 ⟨.tmp 97, .r (.mov (.loc 3)), none⟩,
 ⟨.tmp 98, .r (.len (.tmp 97)), none⟩,
 ⟨.loc 99, .r (.bin .lss (.tmp 96) (.tmp 98)), none⟩])
 (.cond (.loc 99) (.reg [⟨.tmp 100, .r (.mov (.loc 3)), none⟩,
 ⟨.tmp 101, .r (.mov (.loc 13)), none⟩,
 ⟨.tmp 102, .r (.idx 1 (.tmp 100) (.tmp 101)), none⟩,
 ⟨.tmp 103, .r (.load false 1 (.tmp 102)), none⟩,
 ⟨.loc 15, .r (.mov (.tmp 103)), none⟩])
 .skip))
 (.reg [⟨.tmp 104, .r (.mov (.loc 9)), none⟩,
 ⟨.tmp 105, .r (.mov (.loc 15)), none⟩,
 ⟨.tmp 106, .call f7 [.tmp 104, .tmp 105], none⟩])))
 .skip))
 (.seq (.reg [⟨.tmp 108, .r (.mov (.loc 9)), none⟩,
 ⟨.tmp 109, .r (.mov (.loc 0)), none⟩,
 ⟨.tmp 110, .call f8 [.tmp 108, (.cst (.int .i64 2)), .tmp 109], none⟩,
 ⟨.tmp 107, .r (.mov (.tmp 110)), none⟩,
 ⟨.tmp 111, .r (.ext (.tmp 107) 0), none⟩,
 ⟨.tmp 112, .r (.ext (.tmp 107) 1), none⟩,
 ⟨.tmp 113, .r (.ext (.tmp 107) 2), none⟩,
 ⟨.loc 16, .r (.mov (.tmp 111)), none⟩,
 ⟨.loc 17, .r (.mov (.tmp 112)), none⟩,
 ⟨.loc 18, .r (.mov (.tmp 113)), none⟩])
 (.seq (.seq (.reg [⟨.tmp 114, .r (.mov (.loc 18)), none⟩,
 ⟨.loc 115, .r (.bin .eql (.tmp 114) (.cst (.int .i64 6))), none⟩])
 (.cond (.loc 115) (.seq (.seq (.reg [⟨.tmp 116, .r (.mov (.loc 12)), none⟩,
 ⟨.loc 117, .r (.bin .neq (.tmp 116) (.cst (.int .i64 0))), none⟩])
 (.cond (.loc 117) (.seq (.reg [⟨.loc 8, .r (.mov (.cst (.bool false))), none⟩])
 .ret)
 .skip))
 (.exit 1))
 .skip))
 (.seq (.seq (.reg [⟨.tmp 118, .r (.mov (.loc 18)), none⟩,
 ⟨.tmp 119, .r (.bin .neq (.tmp 118) (.cst (.int .i64 0))), none⟩,
 ⟨.tmp 120, .r (.mov (.tmp 119)), none⟩,
 ⟨.tmp 121, .r (.mov (.loc 17)), some (.tmp 120, false)⟩,
 ⟨.tmp 122, .r (.mov (.loc 12)), some (.tmp 120, false)⟩,
 ⟨.tmp 123, .r (.bin .neq (.tmp 121) (.tmp 122)), some (.tmp 120, false)⟩,
 ⟨.tmp 124, .r (.mov (.tmp 123)), some (.tmp 120, false)⟩,
 ⟨.tmp 125, .r (.mov (.loc 17)), some (.tmp 124, true)⟩,
 ⟨.tmp 126, .r (.mov (.loc 12)), some (.tmp 124, true)⟩,
 ⟨.tmp 127, .r (.bin .add (.tmp 126) (.cst (.int .i64 1))), some (.tmp 124, true)⟩,
 ⟨.tmp 128, .r (.bin .neq (.tmp 125) (.tmp 127)), some (.tmp 124, true)⟩,
 ⟨.tmp 129, .r (.pick (.tmp 124) (.tmp 128) (.cst (.bool false))), some (.tmp 120, false)⟩,
 ⟨.tmp 130, .r (.pick (.tmp 120) (.cst (.bool true)) (.tmp 129)), none⟩,
 ⟨.tmp 131, .r (.mov (.tmp 130)), none⟩,
 ⟨.tmp 132, .r (.mov (.loc 17)), some (.tmp 131, false)⟩,
 ⟨.tmp 133, .r (.mov (.loc 12)), some (.tmp 131, false)⟩,
 ⟨.tmp 134, .r (.bin .eql (.tmp 132) (.tmp 133)), some (.tmp 131, false)⟩,
 ⟨.tmp 135, .r (.mov (.tmp 134)), some (.tmp 131, false)⟩,
 ⟨.tmp 136, .r (.mov (.loc 16)), some (.tmp 135, true)⟩,
 ⟨.tmp 137, .r (.mov (.loc 11)), some (.tmp 135, true)⟩,
 ⟨.tmp 138, .call f9 [.tmp 136, .tmp 137], some (.tmp 135, true)⟩,
 ⟨.tmp 139, .r (.not (.tmp 138)), some (.tmp 135, true)⟩,
 ⟨.tmp 140, .r (.pick (.tmp 135) (.tmp 139) (.cst (.bool false))), some (.tmp 131, false)⟩,
 ⟨.tmp 141, .r (.pick (.tmp 131) (.cst (.bool true)) (.tmp 140)), none⟩,
 ⟨.tmp 142, .r (.mov (.tmp 141)), none⟩,
 ⟨.tmp 143, .r (.mov (.loc 17)), some (.tmp 142, false)⟩,
 ⟨.tmp 144, .r (.mov (.loc 12)), some (.tmp 142, false)⟩,
 ⟨.tmp 145, .r (.bin .add (.tmp 144) (.cst (.int .i64 1))), some (.tmp 142, false)⟩,
 ⟨.tmp 146, .r (.bin .eql (.tmp 143) (.tmp 145)), some (.tmp 142, false)⟩,
 ⟨.tmp 147, .r (.mov (.tmp 146)), some (.tmp 142, false)⟩,
 ⟨.tmp 148, .r (.mov (.loc 14)), some (.tmp 147, true)⟩,
 ⟨.tmp 149, .r (.bin .neq (.tmp 148) (.cst (.int .i64 10))), some (.tmp 147, true)⟩,
 ⟨.tmp 150, .r (.mov (.tmp 149)), some (.tmp 147, true)⟩,
 ⟨.tmp 151, .r (.mov (.loc 16)), some (.tmp 150, false)⟩,
 ⟨.tmp 152, .r (.mov (.loc 1)), some (.tmp 150, false)⟩,
 ⟨.tmp 153, .r (.mov (.loc 13)), some (.tmp 150, false)⟩,
 ⟨.tmp 154, .r (.idx 1 (.tmp 152) (.tmp 153)), some (.tmp 150, false)⟩,
 ⟨.tmp 155, .r (.load false 1 (.tmp 154)), some (.tmp 150, false)⟩,
 ⟨.tmp 156, .call f9 [.tmp 151, .tmp 155], some (.tmp 150, false)⟩,
 ⟨.tmp 157, .r (.not (.tmp 156)), some (.tmp 150, false)⟩,
 ⟨.tmp 158, .r (.pick (.tmp 150) (.cst (.bool true)) (.tmp 157)), some (.tmp 147, true)⟩,
 ⟨.tmp 159, .r (.pick (.tmp 147) (.tmp 158) (.cst (.bool false))), some (.tmp 142, false)⟩,
 ⟨.loc 160, .r (.pick (.tmp 142) (.cst (.bool true)) (.tmp 159)), none⟩])
 (.cond (.loc 160) (.seq (.reg [⟨.loc 8, .r (.mov (.cst (.bool false))), none⟩])
 .ret)
 .skip))
 (.seq (.reg [⟨.tmp 161, .r (.mov (.loc 16)), none⟩,
 ⟨.loc 11, .r (.mov (.tmp 161)), none⟩])
 (.reg [⟨.tmp 162, .r (.mov (.loc 17)), none⟩,
 ⟨.loc 12, .r (.mov (.tmp 162)), none⟩]))))))))))
 (.reg [⟨.tmp 37, .r (.mov (.loc 13)), none⟩,
 ⟨.tmp 38, .r (.bin .add (.tmp 37) (.cst (.int .i64 1))), none⟩,
 ⟨.loc 13, .r (.mov (.tmp 38)), none⟩])))
/-- glebe/glebelaw08.CheckLasts -/
def c_glebelaw08_CheckLasts (f0 f1 f2 f3 f4 f5 f6 f7 f8 f9 : FuncId) : AFn := ⟨163, fun s => List.contains [0, 1, 2, 3, 8, 9, 11, 12, 13, 14, 15, 16, 17, 18, 20, 22, 36, 42, 62, 87, 95, 99, 115, 117, 160] s, (.seq (.reg [⟨.loc 8, .r (.mov (.cst (.bool false))), none⟩])
 (.seq (.seq (.reg [⟨.tmp 19, .call f0 [], none⟩,
 ⟨.loc 20, .r (.not (.tmp 19)), none⟩])
 (.cond (.loc 20) (.seq (.reg [⟨.loc 8, .r (.mov (.cst (.bool false))), none⟩])
 .ret)
 .skip))
 (.seq (.seq (.reg [⟨.tmp 21, .r (.mov (.loc 1)), none⟩,
 ⟨.loc 22, .call f1 [.tmp 21], none⟩])
 (.cond (.loc 22) (.seq (.reg [⟨.loc 8, .r (.mov (.cst (.bool true))), none⟩])
 .ret)
 .skip))
 (.seq (.reg [⟨.tmp 23, .r (.mov (.loc 0)), none⟩,
 ⟨.tmp 24, .call f2 [.tmp 23, (.cst (.int .i64 64))], none⟩,
 ⟨.tmp 25, .r (.bin .add (.cst (.int .i64 1)) (.tmp 24)), none⟩,
 ⟨.loc 0, .r (.mov (.tmp 25)), none⟩])
 (.seq (.reg [⟨.tmp 27, .r (.mov (.loc 0)), none⟩,
 ⟨.tmp 28, .r (.bin .mul (.cst (.int .i64 2)) (.tmp 27)), none⟩,
 ⟨.tmp 29, .r (.bin .add (.tmp 28) (.cst (.int .i64 3))), none⟩,
 ⟨.tmp 30, .call f3 [.tmp 29], none⟩,
 ⟨.tmp 26, .r (.mov (.tmp 30)), none⟩,
 ⟨.tmp 31, .r (.ext (.tmp 26) 0), none⟩,
 ⟨.tmp 32, .r (.ext (.tmp 26) 1), none⟩,
 ⟨.loc 9, .r (.mov (.tmp 31)), none⟩,
 ⟨.tmp 10, .r (.mov (.tmp 32)), none⟩])
 (.seq (.reg [⟨.loc 11, .r (.mov (.cst .nils)), none⟩])
 (.seq (.reg [⟨.loc 12, .r (.mov (.cst (.int .i64 0))), none⟩])
 (.seq (.seq (.reg [⟨.loc 13, .r (.mov (.cst (.int .i64 0))), none⟩])
 (.block 0 (.loop (c_glebelaw08_CheckLasts_l0 f0 f1 f2 f3 f4 f5 f6 f7 f8 f9))))
 (.seq (.reg [⟨.loc 8, .r (.mov (.cst (.bool true))), none⟩])
 .ret))))))))), [(.tmp (.loc 8))]⟩

def c_glebelaw08_CheckKnown_l0 (f0 f1 f2 f3 f4 : FuncId) : AC := (.seq (.seq (.reg [⟨.tmp 12, .r (.mov (.loc 3)), none⟩,
 ⟨.tmp 13, .r (.mov (.loc 1)), none⟩,
 ⟨.tmp 14, .r (.len (.tmp 13)), none⟩,
 ⟨.loc 15, .r (.bin .lss (.tmp 12) (.tmp 14)), none⟩])
 (.cond (.loc 15) .skip
 (.exit 2)))
 (.seq (.block 3 (.seq (.dreg ⟨[0, 0, 3, 7, 0, 0, 48, 112, 0, 511, 0, 0, 3072, 7168, 0, 31744, 0, 0, 196608, 458752, 16384, 2048000, 0, 0, 0, 25165824, 58720256, 0, 0, 402653184, 939524096, 2139095040, 1064960, 4296032256, 0, 0, 51539607552, 120259084288, 257698037760, 532575944704, 1099511627775, 2199023255551], 3, [⟨0, 0, false, .r (.mov (.loc 1)), none⟩,
 ⟨1, 0, false, .r (.mov (.loc 2)), none⟩,
 ⟨2, 0, false, .r (.idx 1 (.tmp 0) (.tmp 1)), none⟩,
 ⟨3, 0, false, .r (.load false 1 (.tmp 2)), none⟩,
 ⟨4, 0, false, .r (.mov (.loc 1)), none⟩,
 ⟨5, 0, false, .r (.mov (.loc 3)), none⟩,
 ⟨6, 0, false, .r (.idx 1 (.tmp 4) (.tmp 5)), none⟩,
 ⟨7, 0, false, .r (.load false 1 (.tmp 6)), none⟩,
 ⟨8, 0, false, .h (.bsl 1 [(.cst (.int .u8 7))]), none⟩,
 ⟨9, 1, false, .r (.build [(.int .i64 0), (.int .i64 0), (.int .i64 0), (.int .i64 0), .nils, .nils] [(1, 1, .tmp 3), (2, 1, .tmp 7), (3, 1, (.cst (.int .i64 1))), (4, 1, .tmp 8)]), none⟩,
 ⟨10, 1, false, .r (.mov (.loc 1)), none⟩,
 ⟨11, 1, false, .r (.mov (.loc 2)), none⟩,
 ⟨12, 1, false, .r (.idx 1 (.tmp 10) (.tmp 11)), none⟩,
 ⟨13, 1, false, .r (.load false 1 (.tmp 12)), none⟩,
 ⟨16, 1, false, .r (.mov (.loc 1)), none⟩,
 ⟨17, 1, false, .r (.mov (.loc 3)), none⟩,
 ⟨18, 1, false, .r (.idx 1 (.tmp 16) (.tmp 17)), none⟩,
 ⟨19, 1, false, .r (.load false 1 (.tmp 18)), none⟩,
 ⟨22, 1, false, .r (.build [(.int .i64 0), (.int .i64 0), (.int .i64 0), (.int .i64 0), .nils, .nils] [(1, 1, (.cst (.int .i64 1))), (2, 1, (.cst (.int .i64 3))), (3, 1, (.cst (.int .i64 2)))]), none⟩,
 ⟨23, 1, false, .r (.mov (.loc 1)), none⟩,
 ⟨24, 1, false, .r (.mov (.loc 2)), none⟩,
 ⟨25, 1, false, .r (.idx 1 (.tmp 23) (.tmp 24)), none⟩,
 ⟨26, 1, false, .r (.load false 1 (.tmp 25)), none⟩,
 ⟨27, 1, false, .r (.mov (.loc 1)), none⟩,
 ⟨28, 1, false, .r (.mov (.loc 3)), none⟩,
 ⟨29, 1, false, .r (.idx 1 (.tmp 27) (.tmp 28)), none⟩,
 ⟨30, 1, false, .r (.load false 1 (.tmp 29)), none⟩,
 ⟨31, 1, false, .r (.build [(.int .i64 0), (.int .i64 0), (.int .i64 0), (.int .i64 0), .nils, .nils] [(0, 1, (.cst (.int .i64 2))), (1, 1, .tmp 26), (2, 1, .tmp 30)]), none⟩,
 ⟨34, 1, false, .r (.mov (.loc 1)), none⟩,
 ⟨35, 1, false, .r (.mov (.loc 3)), none⟩,
 ⟨36, 1, false, .r (.idx 1 (.tmp 34) (.tmp 35)), none⟩,
 ⟨37, 1, false, .r (.load false 1 (.tmp 36)), none⟩,
 ⟨38, 1, false, .h (.bsl 1 [(.cst (.int .i64 1)), .tmp 37]), none⟩,
 ⟨39, 2, false, .r (.build [(.int .i64 0), (.int .i64 0), (.int .i64 0), (.int .i64 0), .nils, .nils] [(0, 1, (.cst (.int .i64 1))), (1, 1, (.cst (.int .i64 1))), (2, 1, (.cst (.int .i64 3))), (5, 1, .tmp 38)]), none⟩,
 ⟨14, 1, true, .call f0 [(.cst (.int .i64 40))], none⟩,
 ⟨15, 1, false, .r (.build [(.int .i64 0), (.int .i64 0), (.int .i64 0), (.int .i64 0), .nils, .nils] [(1, 1, (.cst (.int .i64 1))), (2, 1, (.cst (.int .i64 3))), (3, 1, .tmp 13), (4, 1, .tmp 14)]), none⟩,
 ⟨20, 1, true, .call f0 [(.cst (.int .i64 41))], none⟩,
 ⟨21, 1, false, .r (.build [(.int .i64 0), (.int .i64 0), (.int .i64 0), (.int .i64 0), .nils, .nils] [(1, 1, (.cst (.int .i64 1))), (2, 1, (.cst (.int .i64 3))), (3, 1, .tmp 19), (4, 1, .tmp 20)]), none⟩,
 ⟨32, 1, true, .call f0 [(.cst (.int .i64 80))], none⟩,
 ⟨33, 1, false, .r (.build [(.int .i64 0), (.int .i64 0), (.int .i64 0), (.int .i64 0), .nils, .nils] [(1, 1, (.cst (.int .i64 1))), (2, 1, (.cst (.int .i64 3))), (3, 1, (.cst (.int .i64 3))), (4, 1, .tmp 32)]), none⟩,
 ⟨40, 2, false, .h (.bsl 6 [.tmp 9, .tmp 15, .tmp 21, .tmp 22, .tmp 31, .tmp 33, .tmp 39]), none⟩,
 ⟨41, 3, false, .r (.mov (.tmp 40)), none⟩], [(4, 41)]⟩)
 (.seq (.reg [⟨.tmp 59, .r (.mov (.loc 4)), none⟩,
 ⟨.tmp 60, .call f1 [(.cst (.int .i64 10)), .tmp 59], none⟩,
 ⟨.loc 61, .r (.not (.tmp 60)), none⟩])
 (.cond (.loc 61) (.seq (.reg [⟨.loc 0, .r (.mov (.cst (.bool false))), none⟩])
 .ret)
 .skip))))
 (.reg [⟨.tmp 16, .r (.mov (.loc 3)), none⟩,
 ⟨.tmp 17, .r (.bin .add (.tmp 16) (.cst (.int .i64 1))), none⟩,
 ⟨.loc 3, .r (.mov (.tmp 17)), none⟩])))
def c_glebelaw08_CheckKnown_l1 (f0 f1 f2 f3 f4 : FuncId) : AC := (.seq (.seq (.reg [⟨.tmp 6, .r (.mov (.loc 2)), none⟩,
 ⟨.tmp 7, .r (.mov (.loc 1)), none⟩,
 ⟨.tmp 8, .r (.len (.tmp 7)), none⟩,
 ⟨.loc 9, .r (.bin .lss (.tmp 6) (.tmp 8)), none⟩])
 (.cond (.loc 9) .skip
 (.exit 0)))
 (.seq (.block 1 (.seq (.reg [⟨.loc 3, .r (.mov (.cst (.int .i64 0))), none⟩])
 (.block 2 (.loop (c_glebelaw08_CheckKnown_l0 f0 f1 f2 f3 f4)))))
 (.reg [⟨.tmp 10, .r (.mov (.loc 2)), none⟩,
 ⟨.tmp 11, .r (.bin .add (.tmp 10) (.cst (.int .i64 1))), none⟩,
 ⟨.loc 2, .r (.mov (.tmp 11)), none⟩])))
/-- glebe/glebelaw08.CheckKnown -/
def c_glebelaw08_CheckKnown (f0 f1 f2 f3 f4 : FuncId) : AFn := ⟨69, fun s => List.contains [0, 1, 2, 3, 4, 9, 15, 61] s, (.seq (.reg [⟨.loc 0, .r (.mov (.cst (.bool false))), none⟩])
 (.seq (.reg [⟨.tmp 5, .h (.bsl 1 [(.cst (.int .i64 (-9223372036854775808))), (.cst (.int .i64 (-1))), (.cst (.int .i64 0)), (.cst (.int .i64 1)), (.cst (.int .i64 2)), (.cst (.int .i64 3)), (.cst (.int .i64 4)), (.cst (.int .i64 5)), (.cst (.int .i64 9)), (.cst (.int .i64 10)), (.cst (.int .i64 11)), (.cst (.int .i64 1099511627775)), (.cst (.int .i64 1099511627776)), (.cst (.int .i64 1099511627777)), (.cst (.int .i64 4611686018427387904)), (.cst (.int .i64 9223372036854775807))]), none⟩,
 ⟨.loc 1, .r (.mov (.tmp 5)), none⟩])
 (.seq (.seq (.reg [⟨.loc 2, .r (.mov (.cst (.int .i64 0))), none⟩])
 (.block 0 (.loop (c_glebelaw08_CheckKnown_l1 f0 f1 f2 f3 f4))))
 (.seq (.reg [⟨.tmp 62, .call f2 [], none⟩,
 ⟨.tmp 63, .r (.mov (.tmp 62)), none⟩,
 ⟨.tmp 64, .call f3 [], some (.tmp 63, true)⟩,
 ⟨.tmp 65, .r (.pick (.tmp 63) (.tmp 64) (.cst (.bool false))), none⟩,
 ⟨.tmp 66, .r (.mov (.tmp 65)), none⟩,
 ⟨.tmp 67, .call f4 [], some (.tmp 66, true)⟩,
 ⟨.tmp 68, .r (.pick (.tmp 66) (.tmp 67) (.cst (.bool false))), none⟩,
 ⟨.loc 0, .r (.mov (.tmp 68)), none⟩])
 .ret)))), [(.tmp (.loc 0))]⟩

/-- glebe/glebelaw08.works -/
def c_glebelaw08_works (f0 f1 f2 f3 f4 : FuncId) : AFn := ⟨50, fun s => List.contains [0, 1, 2, 3, 4, 5, 6, 12] s, (.seq (.reg [⟨.loc 0, .r (.mov (.cst (.bool false))), none⟩])
 (.seq (.reg [⟨.tmp 8, .call f0 [(.cst (.int .i64 10))], none⟩,
 ⟨.tmp 7, .r (.mov (.tmp 8)), none⟩,
 ⟨.tmp 9, .r (.ext (.tmp 7) 0), none⟩,
 ⟨.tmp 10, .r (.ext (.tmp 7) 1), none⟩,
 ⟨.loc 1, .r (.mov (.tmp 9)), none⟩,
 ⟨.loc 2, .r (.mov (.tmp 10)), none⟩])
 (.seq (.seq (.reg [⟨.tmp 11, .r (.mov (.loc 2)), none⟩,
 ⟨.loc 12, .r (.bin .neq (.tmp 11) (.cst (.int .i64 0))), none⟩])
 (.cond (.loc 12) (.seq (.reg [⟨.loc 0, .r (.mov (.cst (.bool false))), none⟩])
 .ret)
 .skip))
 (.seq (.reg [⟨.tmp 13, .r (.mov (.loc 1)), none⟩,
 ⟨.tmp 14, .h (.bsl 1 [(.cst (.int .u8 7))]), none⟩,
 ⟨.tmp 15, .call f1 [.tmp 13, (.cst (.int .i64 1)), (.cst (.int .i64 3)), (.cst (.int .i64 1)), .tmp 14], none⟩,
 ⟨.loc 3, .r (.mov (.tmp 15)), none⟩])
 (.seq (.reg [⟨.tmp 16, .r (.mov (.loc 1)), none⟩,
 ⟨.tmp 17, .call f2 [(.cst (.int .i64 120))], none⟩,
 ⟨.tmp 18, .call f1 [.tmp 16, (.cst (.int .i64 1)), (.cst (.int .i64 3)), (.cst (.int .i64 2)), .tmp 17], none⟩,
 ⟨.loc 4, .r (.mov (.tmp 18)), none⟩])
 (.seq (.reg [⟨.tmp 20, .r (.mov (.loc 1)), none⟩,
 ⟨.tmp 21, .call f3 [.tmp 20, (.cst (.int .i64 1)), (.cst (.int .i64 3))], none⟩,
 ⟨.tmp 19, .r (.mov (.tmp 21)), none⟩,
 ⟨.tmp 22, .r (.ext (.tmp 19) 0), none⟩,
 ⟨.tmp 23, .r (.ext (.tmp 19) 1), none⟩,
 ⟨.tmp 24, .r (.ext (.tmp 19) 2), none⟩,
 ⟨.loc 5, .r (.mov (.tmp 22)), none⟩,
 ⟨.loc 6, .r (.mov (.tmp 23)), none⟩,
 ⟨.loc 2, .r (.mov (.tmp 24)), none⟩])
 (.seq (.reg [⟨.tmp 25, .r (.mov (.loc 3)), none⟩,
 ⟨.tmp 26, .r (.bin .eql (.tmp 25) (.cst (.int .i64 0))), none⟩,
 ⟨.tmp 27, .r (.mov (.tmp 26)), none⟩,
 ⟨.tmp 28, .r (.mov (.loc 4)), some (.tmp 27, true)⟩,
 ⟨.tmp 29, .r (.bin .eql (.tmp 28) (.cst (.int .i64 0))), some (.tmp 27, true)⟩,
 ⟨.tmp 30, .r (.pick (.tmp 27) (.tmp 29) (.cst (.bool false))), none⟩,
 ⟨.tmp 31, .r (.mov (.tmp 30)), none⟩,
 ⟨.tmp 32, .r (.mov (.loc 2)), some (.tmp 31, true)⟩,
 ⟨.tmp 33, .r (.bin .eql (.tmp 32) (.cst (.int .i64 0))), some (.tmp 31, true)⟩,
 ⟨.tmp 34, .r (.pick (.tmp 31) (.tmp 33) (.cst (.bool false))), none⟩,
 ⟨.tmp 35, .r (.mov (.tmp 34)), none⟩,
 ⟨.tmp 36, .r (.mov (.loc 6)), some (.tmp 35, true)⟩,
 ⟨.tmp 37, .r (.bin .eql (.tmp 36) (.cst (.int .i64 2))), some (.tmp 35, true)⟩,
 ⟨.tmp 38, .r (.pick (.tmp 35) (.tmp 37) (.cst (.bool false))), none⟩,
 ⟨.tmp 39, .r (.mov (.tmp 38)), none⟩,
 ⟨.tmp 40, .r (.mov (.loc 5)), some (.tmp 39, true)⟩,
 ⟨.tmp 41, .call f2 [(.cst (.int .i64 120))], some (.tmp 39, true)⟩,
 ⟨.tmp 42, .call f4 [.tmp 40, .tmp 41], some (.tmp 39, true)⟩,
 ⟨.tmp 43, .r (.pick (.tmp 39) (.tmp 42) (.cst (.bool false))), none⟩,
 ⟨.tmp 44, .r (.mov (.tmp 43)), none⟩,
 ⟨.tmp 45, .r (.mov (.loc 1)), some (.tmp 44, true)⟩,
 ⟨.tmp 46, .call f2 [(.cst (.int .i64 121))], some (.tmp 44, true)⟩,
 ⟨.tmp 47, .call f1 [.tmp 45, (.cst (.int .i64 1)), (.cst (.int .i64 3)), (.cst (.int .i64 3)), .tmp 46], some (.tmp 44, true)⟩,
 ⟨.tmp 48, .r (.bin .eql (.tmp 47) (.cst (.int .i64 2))), some (.tmp 44, true)⟩,
 ⟨.tmp 49, .r (.pick (.tmp 44) (.tmp 48) (.cst (.bool false))), none⟩,
 ⟨.loc 0, .r (.mov (.tmp 49)), none⟩])
 .ret))))))), [(.tmp (.loc 0))]⟩

def c_glebelaw08_great_l0 : AC := (.seq (.seq (.reg [⟨.tmp 7, .r (.mov (.loc 3)), none⟩,
 ⟨.tmp 8, .r (.mov (.loc 0)), none⟩,
 ⟨.tmp 9, .r (.len (.tmp 8)), none⟩,
 ⟨.loc 10, .r (.bin .lss (.tmp 7) (.tmp 9)), none⟩])
 (.cond (.loc 10) .skip
 (.exit 0)))
 (.seq (.block 1 (.seq (.reg [⟨.tmp 13, .r (.mov (.loc 0)), none⟩,
 ⟨.tmp 14, .r (.mov (.loc 3)), none⟩,
 ⟨.tmp 15, .r (.idx 1 (.tmp 13) (.tmp 14)), none⟩,
 ⟨.tmp 16, .r (.load false 1 (.tmp 15)), none⟩,
 ⟨.tmp 17, .r (.len (.tmp 16)), none⟩,
 ⟨.loc 18, .r (.bin .gtr (.tmp 17) (.cst (.int .i64 4096))), none⟩])
 (.cond (.loc 18) (.seq (.reg [⟨.loc 2, .r (.mov (.cst (.bool true))), none⟩])
 .ret)
 .skip)))
 (.reg [⟨.tmp 11, .r (.mov (.loc 3)), none⟩,
 ⟨.tmp 12, .r (.bin .add (.tmp 11) (.cst (.int .i64 1))), none⟩,
 ⟨.loc 3, .r (.mov (.tmp 12)), none⟩])))
/-- glebe/glebelaw08.great -/
def c_glebelaw08_great : AFn := ⟨19, fun s => List.contains [0, 2, 3, 6, 10, 18] s, (.seq (.reg [⟨.loc 2, .r (.mov (.cst (.bool false))), none⟩])
 (.seq (.seq (.reg [⟨.tmp 4, .r (.mov (.loc 0)), none⟩,
 ⟨.tmp 5, .r (.len (.tmp 4)), none⟩,
 ⟨.loc 6, .r (.bin .gtr (.tmp 5) (.cst (.int .i64 60))), none⟩])
 (.cond (.loc 6) (.seq (.reg [⟨.loc 2, .r (.mov (.cst (.bool true))), none⟩])
 .ret)
 .skip))
 (.seq (.seq (.reg [⟨.loc 3, .r (.mov (.cst (.int .i64 0))), none⟩])
 (.block 0 (.loop (c_glebelaw08_great_l0))))
 (.seq (.reg [⟨.loc 2, .r (.mov (.cst (.bool false))), none⟩])
 .ret)))), [(.tmp (.loc 2))]⟩

def c_glebelaw08_CheckRuns_l0 (f0 f1 f2 f3 f4 f5 f6 f7 : FuncId) : AC := (.seq (.seq (.reg [⟨.tmp 37, .r (.mov (.loc 9)), none⟩,
 ⟨.tmp 38, .r (.mov (.loc 1)), none⟩,
 ⟨.tmp 39, .r (.len (.tmp 38)), none⟩,
 ⟨.loc 40, .r (.bin .lss (.tmp 37) (.tmp 39)), none⟩])
 (.cond (.loc 40) .skip
 (.exit 0)))
 (.seq (.block 1 (.seq (.dreg ⟨[0, 0, 0, 0, 12, 28, 63, 127, 255, 511, 511, 511, 511, 6655, 14847, 31231, 511, 511, 197119, 459263, 983551, 2097151, 4194303, 8388607, 16777215, 33554431, 33554431, 33554431, 33554431, 436207615, 973078527, 2046820351, 4294967295, 8589934591, 17179869183], 0, [⟨0, 0, false, .r (.mov (.loc 5)), none⟩,
 ⟨1, 0, false, .r (.mov (.loc 7)), none⟩,
 ⟨2, 0, false, .r (.mov (.loc 1)), none⟩,
 ⟨3, 0, false, .r (.mov (.loc 9)), none⟩,
 ⟨4, 0, false, .r (.idx 6 (.tmp 2) (.tmp 3)), none⟩,
 ⟨5, 0, false, .r (.load true 6 (.tmp 4)), none⟩,
 ⟨6, 0, true, .call f4 [.tmp 0, .tmp 1, .tmp 5], none⟩,
 ⟨7, 0, false, .r (.not (.tmp 6)), none⟩,
 ⟨8, 0, false, .r (.mov (.tmp 7)), none⟩,
 ⟨9, 0, false, .r (.mov (.loc 5)), some (.tmp 8, false)⟩,
 ⟨10, 0, false, .r (.mov (.loc 7)), some (.tmp 8, false)⟩,
 ⟨11, 0, false, .r (.mov (.loc 1)), some (.tmp 8, false)⟩,
 ⟨12, 0, false, .r (.mov (.loc 9)), some (.tmp 8, false)⟩,
 ⟨13, 0, false, .r (.idx 6 (.tmp 11) (.tmp 12)), some (.tmp 8, false)⟩,
 ⟨14, 0, false, .r (.off 1 (.tmp 13)), some (.tmp 8, false)⟩,
 ⟨15, 0, false, .r (.load false 1 (.tmp 14)), some (.tmp 8, false)⟩,
 ⟨16, 0, false, .r (.mov (.loc 1)), some (.tmp 8, false)⟩,
 ⟨17, 0, false, .r (.mov (.loc 9)), some (.tmp 8, false)⟩,
 ⟨18, 0, false, .r (.idx 6 (.tmp 16) (.tmp 17)), some (.tmp 8, false)⟩,
 ⟨19, 0, false, .r (.off 2 (.tmp 18)), some (.tmp 8, false)⟩,
 ⟨20, 0, false, .r (.load false 1 (.tmp 19)), some (.tmp 8, false)⟩,
 ⟨21, 0, true, .call f5 [.tmp 9, .tmp 10, .tmp 15, .tmp 20], some (.tmp 8, false)⟩,
 ⟨22, 0, false, .r (.not (.tmp 21)), some (.tmp 8, false)⟩,
 ⟨23, 0, false, .r (.pick (.tmp 8) (.cst (.bool true)) (.tmp 22)), none⟩,
 ⟨24, 0, false, .r (.mov (.tmp 23)), none⟩,
 ⟨25, 0, false, .r (.mov (.loc 5)), some (.tmp 24, false)⟩,
 ⟨26, 0, false, .r (.mov (.loc 7)), some (.tmp 24, false)⟩,
 ⟨27, 0, false, .r (.mov (.loc 1)), some (.tmp 24, false)⟩,
 ⟨28, 0, false, .r (.mov (.loc 9)), some (.tmp 24, false)⟩,
 ⟨29, 0, false, .r (.idx 6 (.tmp 27) (.tmp 28)), some (.tmp 24, false)⟩,
 ⟨30, 0, false, .r (.off 1 (.tmp 29)), some (.tmp 24, false)⟩,
 ⟨31, 0, false, .r (.load false 1 (.tmp 30)), some (.tmp 24, false)⟩,
 ⟨32, 0, true, .call f6 [.tmp 25, .tmp 26, .tmp 31], some (.tmp 24, false)⟩,
 ⟨33, 0, false, .r (.not (.tmp 32)), some (.tmp 24, false)⟩,
 ⟨34, 0, false, .r (.pick (.tmp 24) (.cst (.bool true)) (.tmp 33)), none⟩], [(77, 34)]⟩)
 (.cond (.loc 77) (.seq (.reg [⟨.loc 4, .r (.mov (.cst (.bool false))), none⟩])
 .ret)
 .skip)))
 (.reg [⟨.tmp 41, .r (.mov (.loc 9)), none⟩,
 ⟨.tmp 42, .r (.bin .add (.tmp 41) (.cst (.int .i64 1))), none⟩,
 ⟨.loc 9, .r (.mov (.tmp 42)), none⟩])))
/-- glebe/glebelaw08.CheckRuns -/
def c_glebelaw08_CheckRuns (f0 f1 f2 f3 f4 f5 f6 f7 : FuncId) : AFn := ⟨84, fun s => List.contains [0, 1, 4, 5, 6, 7, 8, 9, 29, 36, 40, 77] s, (.seq (.reg [⟨.loc 4, .r (.mov (.cst (.bool false))), none⟩])
 (.seq (.reg [⟨.tmp 11, .r (.mov (.loc 0)), none⟩,
 ⟨.tmp 12, .call f0 [.tmp 11], none⟩,
 ⟨.tmp 10, .r (.mov (.tmp 12)), none⟩,
 ⟨.tmp 13, .r (.ext (.tmp 10) 0), none⟩,
 ⟨.tmp 14, .r (.ext (.tmp 10) 1), none⟩,
 ⟨.loc 5, .r (.mov (.tmp 13)), none⟩,
 ⟨.loc 6, .r (.mov (.tmp 14)), none⟩])
 (.seq (.reg [⟨.tmp 16, .r (.mov (.loc 0)), none⟩,
 ⟨.tmp 17, .call f1 [.tmp 16], none⟩,
 ⟨.tmp 15, .r (.mov (.tmp 17)), none⟩,
 ⟨.tmp 18, .r (.ext (.tmp 15) 0), none⟩,
 ⟨.tmp 19, .r (.ext (.tmp 15) 1), none⟩,
 ⟨.loc 7, .r (.mov (.tmp 18)), none⟩,
 ⟨.loc 8, .r (.mov (.tmp 19)), none⟩])
 (.seq (.seq (.reg [⟨.tmp 20, .r (.mov (.loc 1)), none⟩,
 ⟨.tmp 21, .call f2 [.tmp 20], none⟩,
 ⟨.tmp 22, .r (.mov (.tmp 21)), none⟩,
 ⟨.tmp 23, .r (.mov (.loc 8)), some (.tmp 22, false)⟩,
 ⟨.tmp 24, .r (.bin .neq (.tmp 23) (.cst (.int .i64 0))), some (.tmp 22, false)⟩,
 ⟨.tmp 25, .r (.pick (.tmp 22) (.cst (.bool true)) (.tmp 24)), none⟩,
 ⟨.tmp 26, .r (.mov (.tmp 25)), none⟩,
 ⟨.tmp 27, .r (.mov (.loc 0)), some (.tmp 26, false)⟩,
 ⟨.tmp 28, .r (.bin .gtr (.tmp 27) (.cst (.int .i64 1024))), some (.tmp 26, false)⟩,
 ⟨.loc 29, .r (.pick (.tmp 26) (.cst (.bool true)) (.tmp 28)), none⟩])
 (.cond (.loc 29) (.seq (.reg [⟨.tmp 30, .call f3 [], none⟩,
 ⟨.loc 4, .r (.mov (.tmp 30)), none⟩])
 .ret)
 .skip))
 (.seq (.seq (.reg [⟨.tmp 31, .r (.mov (.loc 6)), none⟩,
 ⟨.tmp 32, .r (.bin .neq (.tmp 31) (.cst (.int .i64 0))), none⟩,
 ⟨.tmp 33, .r (.mov (.tmp 32)), none⟩,
 ⟨.tmp 34, .r (.mov (.loc 5)), some (.tmp 33, false)⟩,
 ⟨.tmp 35, .r (.x (.peq false (.tmp 34))), some (.tmp 33, false)⟩,
 ⟨.loc 36, .r (.pick (.tmp 33) (.cst (.bool true)) (.tmp 35)), none⟩])
 (.cond (.loc 36) (.seq (.reg [⟨.loc 4, .r (.mov (.cst (.bool false))), none⟩])
 .ret)
 .skip))
 (.seq (.seq (.reg [⟨.loc 9, .r (.mov (.cst (.int .i64 0))), none⟩])
 (.block 0 (.loop (c_glebelaw08_CheckRuns_l0 f0 f1 f2 f3 f4 f5 f6 f7))))
 (.seq (.reg [⟨.tmp 78, .r (.mov (.loc 5)), none⟩,
 ⟨.tmp 79, .r (.mov (.loc 7)), none⟩,
 ⟨.tmp 80, .call f7 [.tmp 78, .tmp 79], none⟩,
 ⟨.tmp 81, .r (.mov (.tmp 80)), none⟩,
 ⟨.tmp 82, .call f3 [], some (.tmp 81, true)⟩,
 ⟨.tmp 83, .r (.pick (.tmp 81) (.tmp 82) (.cst (.bool false))), none⟩,
 ⟨.loc 4, .r (.mov (.tmp 83)), none⟩])
 .ret))))))), [(.tmp (.loc 4))]⟩

def c_glebelaw08_knownTurned_l0 (f0 f1 f2 f3 f4 f5 : FuncId) : AC := (.seq (.seq (.reg [⟨.tmp 26, .r (.mov (.loc 6)), none⟩,
 ⟨.tmp 27, .r (.mov (.loc 4)), none⟩,
 ⟨.tmp 28, .r (.len (.tmp 27)), none⟩,
 ⟨.loc 29, .r (.bin .lss (.tmp 26) (.tmp 28)), none⟩])
 (.cond (.loc 29) .skip
 (.exit 2)))
 (.seq (.block 3 (.seq (.reg [⟨.tmp 32, .r (.mov (.loc 4)), none⟩,
 ⟨.tmp 33, .call f4 [.tmp 32], none⟩,
 ⟨.loc 7, .r (.mov (.tmp 33)), none⟩])
 (.seq (.reg [⟨.tmp 34, .r (.mov (.loc 7)), none⟩,
 ⟨.tmp 35, .r (.mov (.loc 6)), none⟩,
 ⟨.tmp 36, .r (.mov (.loc 7)), none⟩,
 ⟨.tmp 37, .r (.mov (.loc 6)), none⟩,
 ⟨.tmp 38, .r (.idx 1 (.tmp 36) (.tmp 37)), none⟩,
 ⟨.tmp 39, .r (.load false 1 (.tmp 38)), none⟩,
 ⟨.tmp 40, .r (.bin .xor (.tmp 39) (.cst (.int .u8 1))), none⟩,
 ⟨.tmp 41, .r (.idx 1 (.tmp 34) (.tmp 35)), none⟩,
 ⟨.none, .h (.store 1 (.tmp 41) (.tmp 40)), none⟩])
 (.seq (.dreg ⟨[0, 1, 0, 4, 0, 0, 48, 0, 0, 0, 0, 1536, 3840, 0, 16383, 32767], 2, [⟨0, 0, false, .h (.bsl 1 [(.cst (.int .u8 9))]), none⟩,
 ⟨1, 1, false, .r (.build [(.int .i64 0), (.int .i64 0), (.int .i64 0), (.int .i64 0), .nils, .nils] [(1, 1, (.cst (.int .i64 1))), (2, 1, (.cst (.int .i64 3))), (3, 1, (.cst (.int .i64 4))), (4, 1, .tmp 0)]), none⟩,
 ⟨4, 1, false, .r (.mov (.loc 3)), none⟩,
 ⟨5, 1, false, .r (.mov (.loc 7)), none⟩,
 ⟨6, 1, false, .r (.build [(.int .i64 0), (.int .i64 0), (.int .i64 0), (.int .i64 0), .nils, .nils] [(0, 1, (.cst (.int .i64 3))), (1, 1, .tmp 4), (4, 1, .tmp 5)]), none⟩,
 ⟨7, 1, false, .r (.build [(.int .i64 0), (.int .i64 0), (.int .i64 0), (.int .i64 0), .nils, .nils] [(0, 1, (.cst (.int .i64 9))), (1, 1, (.cst (.int .i64 1))), (2, 1, (.cst (.int .i64 3)))]), none⟩,
 ⟨8, 1, false, .r (.mov (.loc 3)), none⟩,
 ⟨9, 1, false, .r (.mov (.loc 4)), none⟩,
 ⟨10, 1, false, .r (.mov (.loc 6)), none⟩,
 ⟨11, 1, false, .r (.slc 1 (.tmp 9) none (some (.tmp 10)) none), none⟩,
 ⟨12, 1, false, .r (.build [(.int .i64 0), (.int .i64 0), (.int .i64 0), (.int .i64 0), .nils, .nils] [(0, 1, (.cst (.int .i64 3))), (1, 1, .tmp 8), (4, 1, .tmp 11)]), none⟩,
 ⟨13, 1, false, .r (.build [(.int .i64 0), (.int .i64 0), (.int .i64 0), (.int .i64 0), .nils, .nils] [(0, 1, (.cst (.int .i64 9))), (1, 1, (.cst (.int .i64 1))), (2, 1, (.cst (.int .i64 3)))]), none⟩,
 ⟨2, 1, true, .call f1 [(.cst (.int .i64 50))], none⟩,
 ⟨3, 1, false, .r (.build [(.int .i64 0), (.int .i64 0), (.int .i64 0), (.int .i64 0), .nils, .nils] [(1, 1, (.cst (.int .i64 1))), (2, 1, (.cst (.int .i64 3))), (3, 1, (.cst (.int .i64 5))), (4, 1, .tmp 2)]), none⟩,
 ⟨14, 1, false, .h (.bsl 6 [.tmp 1, .tmp 3, .tmp 6, .tmp 7, .tmp 12, .tmp 13]), none⟩,
 ⟨15, 2, false, .r (.mov (.tmp 14)), none⟩], [(8, 15)]⟩)
 (.seq (.reg [⟨.tmp 57, .r (.mov (.loc 8)), none⟩,
 ⟨.tmp 58, .call f5 [(.cst (.int .i64 10)), .tmp 57], none⟩,
 ⟨.loc 59, .r (.not (.tmp 58)), none⟩])
 (.cond (.loc 59) (.seq (.reg [⟨.loc 0, .r (.mov (.cst (.bool false))), none⟩])
 .ret)
 .skip))))))
 (.reg [⟨.tmp 30, .r (.mov (.loc 6)), none⟩,
 ⟨.tmp 31, .r (.bin .add (.tmp 30) (.cst (.int .i64 1))), none⟩,
 ⟨.loc 6, .r (.mov (.tmp 31)), none⟩])))
def c_glebelaw08_knownTurned_l1 (f0 f1 f2 f3 f4 f5 : FuncId) : AC := (.seq (.seq (.reg [⟨.tmp 16, .r (.mov (.loc 3)), none⟩,
 ⟨.loc 17, .r (.bin .lss (.tmp 16) (.cst (.int .i64 6))), none⟩])
 (.cond (.loc 17) .skip
 (.exit 0)))
 (.seq (.block 1 (.seq (.reg [⟨.tmp 21, .r (.mov (.loc 1)), none⟩,
 ⟨.tmp 22, .r (.mov (.loc 3)), none⟩,
 ⟨.tmp 23, .call f3 [.tmp 21, .tmp 22], none⟩,
 ⟨.tmp 20, .r (.mov (.tmp 23)), none⟩,
 ⟨.tmp 24, .r (.ext (.tmp 20) 0), none⟩,
 ⟨.tmp 25, .r (.ext (.tmp 20) 1), none⟩,
 ⟨.loc 4, .r (.mov (.tmp 24)), none⟩,
 ⟨.tmp 5, .r (.mov (.tmp 25)), none⟩])
 (.seq (.reg [⟨.loc 6, .r (.mov (.cst (.int .i64 0))), none⟩])
 (.block 2 (.loop (c_glebelaw08_knownTurned_l0 f0 f1 f2 f3 f4 f5))))))
 (.reg [⟨.tmp 18, .r (.mov (.loc 3)), none⟩,
 ⟨.tmp 19, .r (.bin .add (.tmp 18) (.cst (.int .i64 1))), none⟩,
 ⟨.loc 3, .r (.mov (.tmp 19)), none⟩])))
/-- glebe/glebelaw08.knownTurned -/
def c_glebelaw08_knownTurned (f0 f1 f2 f3 f4 f5 : FuncId) : AFn := ⟨60, fun s => List.contains [0, 1, 3, 4, 6, 7, 8, 17, 29, 59] s, (.seq (.reg [⟨.loc 0, .r (.mov (.cst (.bool false))), none⟩])
 (.seq (.reg [⟨.tmp 10, .call f0 [(.cst (.int .i64 10))], none⟩,
 ⟨.tmp 9, .r (.mov (.tmp 10)), none⟩,
 ⟨.tmp 11, .r (.ext (.tmp 9) 0), none⟩,
 ⟨.tmp 12, .r (.ext (.tmp 9) 1), none⟩,
 ⟨.loc 1, .r (.mov (.tmp 11)), none⟩,
 ⟨.tmp 2, .r (.mov (.tmp 12)), none⟩])
 (.seq (.reg [⟨.tmp 13, .r (.mov (.loc 1)), none⟩,
 ⟨.tmp 14, .call f1 [(.cst (.int .i64 50))], none⟩,
 ⟨.tmp 15, .call f2 [.tmp 13, (.cst (.int .i64 1)), (.cst (.int .i64 3)), (.cst (.int .i64 5)), .tmp 14], none⟩])
 (.seq (.seq (.reg [⟨.loc 3, .r (.mov (.cst (.int .i64 4))), none⟩])
 (.block 0 (.loop (c_glebelaw08_knownTurned_l1 f0 f1 f2 f3 f4 f5))))
 (.seq (.reg [⟨.loc 0, .r (.mov (.cst (.bool true))), none⟩])
 .ret))))), [(.tmp (.loc 0))]⟩

def c_glebelaw08_knownCuts_l0 (f0 f1 f2 : FuncId) : AC := (.seq (.seq (.reg [⟨.tmp 15, .r (.mov (.loc 3)), none⟩,
 ⟨.loc 16, .r (.bin .lss (.tmp 15) (.cst (.int .i64 27))), none⟩])
 (.cond (.loc 16) .skip
 (.exit 2)))
 (.seq (.block 3 (.seq (.reg [⟨.tmp 19, .r (.mov (.loc 3)), none⟩,
 ⟨.tmp 20, .r (.bin .rem (.tmp 19) (.cst (.int .i64 3))), none⟩,
 ⟨.tmp 21, .r (.mov (.loc 3)), none⟩,
 ⟨.tmp 22, .r (.bin .quo (.tmp 21) (.cst (.int .i64 3))), none⟩,
 ⟨.tmp 23, .r (.bin .rem (.tmp 22) (.cst (.int .i64 3))), none⟩,
 ⟨.tmp 24, .r (.mov (.loc 3)), none⟩,
 ⟨.tmp 25, .r (.bin .quo (.tmp 24) (.cst (.int .i64 9))), none⟩,
 ⟨.tmp 26, .h (.bsl 1 [.tmp 20, .tmp 23, .tmp 25]), none⟩,
 ⟨.loc 4, .r (.mov (.tmp 26)), none⟩])
 (.seq (.reg [⟨.tmp 27, .r (.mov (.loc 1)), none⟩,
 ⟨.tmp 28, .r (.mov (.loc 2)), none⟩,
 ⟨.tmp 29, .r (.mov (.loc 2)), none⟩,
 ⟨.tmp 30, .r (.mov (.loc 2)), none⟩,
 ⟨.tmp 31, .h (.bsl 1 [(.cst (.int .i64 5)), .tmp 28, (.cst (.int .i64 5)), .tmp 29, .tmp 30, (.cst (.int .i64 2))]), none⟩,
 ⟨.tmp 32, .r (.mov (.loc 4)), none⟩,
 ⟨.tmp 33, .r (.mov (.loc 4)), none⟩,
 ⟨.tmp 34, .r (.mov (.loc 4)), none⟩,
 ⟨.tmp 35, .r (.mov (.loc 4)), none⟩,
 ⟨.tmp 36, .r (.mov (.loc 4)), none⟩,
 ⟨.tmp 37, .r (.mov (.loc 4)), none⟩,
 ⟨.tmp 38, .h (.bsl 1 [.tmp 32, .tmp 33, .tmp 34, .tmp 35, .tmp 36, .tmp 37]), none⟩,
 ⟨.tmp 39, .call f1 [(.cst (.int .i64 2)), .tmp 27, .tmp 31, .tmp 38], none⟩,
 ⟨.tmp 40, .r (.not (.tmp 39)), none⟩,
 ⟨.tmp 41, .r (.mov (.tmp 40)), none⟩,
 ⟨.tmp 42, .r (.mov (.loc 1)), some (.tmp 41, false)⟩,
 ⟨.tmp 43, .r (.mov (.loc 2)), some (.tmp 41, false)⟩,
 ⟨.tmp 44, .r (.mov (.loc 2)), some (.tmp 41, false)⟩,
 ⟨.tmp 45, .r (.mov (.loc 3)), some (.tmp 41, false)⟩,
 ⟨.tmp 46, .r (.bin .rem (.tmp 45) (.cst (.int .i64 7))), some (.tmp 41, false)⟩,
 ⟨.tmp 47, .r (.mov (.loc 2)), some (.tmp 41, false)⟩,
 ⟨.tmp 48, .h (.bsl 1 [(.cst (.int .i64 6)), (.cst (.int .i64 6)), .tmp 43, .tmp 44, .tmp 46, .tmp 47]), some (.tmp 41, false)⟩,
 ⟨.tmp 49, .r (.mov (.loc 4)), some (.tmp 41, false)⟩,
 ⟨.tmp 50, .r (.mov (.loc 4)), some (.tmp 41, false)⟩,
 ⟨.tmp 51, .r (.mov (.loc 4)), some (.tmp 41, false)⟩,
 ⟨.tmp 52, .r (.mov (.loc 4)), some (.tmp 41, false)⟩,
 ⟨.tmp 53, .r (.mov (.loc 4)), some (.tmp 41, false)⟩,
 ⟨.tmp 54, .r (.mov (.loc 4)), some (.tmp 41, false)⟩,
 ⟨.tmp 55, .h (.bsl 1 [.tmp 49, .tmp 50, .tmp 51, .tmp 52, .tmp 53, .tmp 54]), some (.tmp 41, false)⟩,
 ⟨.tmp 56, .call f1 [(.cst (.int .i64 2)), .tmp 42, .tmp 48, .tmp 55], some (.tmp 41, false)⟩,
 ⟨.tmp 57, .r (.not (.tmp 56)), some (.tmp 41, false)⟩,
 ⟨.loc 58, .r (.pick (.tmp 41) (.cst (.bool true)) (.tmp 57)), none⟩])
 (.cond (.loc 58) (.seq (.reg [⟨.loc 0, .r (.mov (.cst (.bool false))), none⟩])
 .ret)
 .skip))))
 (.reg [⟨.tmp 17, .r (.mov (.loc 3)), none⟩,
 ⟨.tmp 18, .r (.bin .add (.tmp 17) (.cst (.int .i64 1))), none⟩,
 ⟨.loc 3, .r (.mov (.tmp 18)), none⟩])))
def c_glebelaw08_knownCuts_l1 (f0 f1 f2 : FuncId) : AC := (.seq (.seq (.reg [⟨.tmp 11, .r (.mov (.loc 2)), none⟩,
 ⟨.loc 12, .r (.bin .lss (.tmp 11) (.cst (.int .i64 7))), none⟩])
 (.cond (.loc 12) .skip
 (.exit 0)))
 (.seq (.block 1 (.seq (.reg [⟨.loc 3, .r (.mov (.cst (.int .i64 0))), none⟩])
 (.block 2 (.loop (c_glebelaw08_knownCuts_l0 f0 f1 f2)))))
 (.reg [⟨.tmp 13, .r (.mov (.loc 2)), none⟩,
 ⟨.tmp 14, .r (.bin .add (.tmp 13) (.cst (.int .i64 1))), none⟩,
 ⟨.loc 2, .r (.mov (.tmp 14)), none⟩])))
/-- glebe/glebelaw08.knownCuts -/
def c_glebelaw08_knownCuts (f0 f1 f2 : FuncId) : AFn := ⟨63, fun s => List.contains [0, 1, 2, 3, 4, 12, 16, 58] s, (.seq (.reg [⟨.loc 0, .r (.mov (.cst (.bool false))), none⟩])
 (.seq (.reg [⟨.tmp 5, .call f0 [(.cst (.int .i64 1))], none⟩,
 ⟨.tmp 6, .call f0 [(.cst (.int .i64 100))], none⟩,
 ⟨.tmp 7, .call f0 [(.cst (.int .i64 30))], none⟩,
 ⟨.tmp 8, .call f0 [(.cst (.int .i64 120))], none⟩,
 ⟨.tmp 9, .call f0 [(.cst (.int .i64 41))], none⟩,
 ⟨.tmp 10, .h (.bsl 1 [.tmp 5, .tmp 6, .tmp 7, (.cst .nils), .tmp 8, .tmp 9]), none⟩,
 ⟨.loc 1, .r (.mov (.tmp 10)), none⟩])
 (.seq (.seq (.reg [⟨.loc 2, .r (.mov (.cst (.int .i64 0))), none⟩])
 (.block 0 (.loop (c_glebelaw08_knownCuts_l1 f0 f1 f2))))
 (.seq (.reg [⟨.tmp 59, .call f0 [(.cst (.int .i64 300))], none⟩,
 ⟨.tmp 60, .r (.mov (.loc 1)), none⟩,
 ⟨.tmp 61, .h (.bsl 1 [(.cst (.int .i64 0)), (.cst (.int .i64 49)), (.cst (.int .i64 50)), (.cst (.int .i64 193)), (.cst (.int .i64 3)), (.cst (.int .i64 4))]), none⟩,
 ⟨.tmp 62, .call f2 [(.cst (.int .i64 7)), .tmp 59, .tmp 60, .tmp 61], none⟩,
 ⟨.loc 0, .r (.mov (.tmp 62)), none⟩])
 .ret)))), [(.tmp (.loc 0))]⟩

def c_glebelaw08_long_l0 : AC := (.seq (.seq (.reg [⟨.tmp 7, .r (.mov (.loc 3)), none⟩,
 ⟨.tmp 8, .r (.mov (.loc 0)), none⟩,
 ⟨.tmp 9, .r (.len (.tmp 8)), none⟩,
 ⟨.loc 10, .r (.bin .lss (.tmp 7) (.tmp 9)), none⟩])
 (.cond (.loc 10) .skip
 (.exit 0)))
 (.seq (.block 1 (.seq (.reg [⟨.tmp 13, .r (.mov (.loc 0)), none⟩,
 ⟨.tmp 14, .r (.mov (.loc 3)), none⟩,
 ⟨.tmp 15, .r (.idx 6 (.tmp 13) (.tmp 14)), none⟩,
 ⟨.tmp 16, .r (.off 4 (.tmp 15)), none⟩,
 ⟨.tmp 17, .r (.load false 1 (.tmp 16)), none⟩,
 ⟨.tmp 18, .r (.len (.tmp 17)), none⟩,
 ⟨.tmp 19, .r (.bin .gtr (.tmp 18) (.cst (.int .i64 4096))), none⟩,
 ⟨.tmp 20, .r (.mov (.tmp 19)), none⟩,
 ⟨.tmp 21, .r (.mov (.loc 0)), some (.tmp 20, false)⟩,
 ⟨.tmp 22, .r (.mov (.loc 3)), some (.tmp 20, false)⟩,
 ⟨.tmp 23, .r (.idx 6 (.tmp 21) (.tmp 22)), some (.tmp 20, false)⟩,
 ⟨.tmp 24, .r (.off 5 (.tmp 23)), some (.tmp 20, false)⟩,
 ⟨.tmp 25, .r (.load false 1 (.tmp 24)), some (.tmp 20, false)⟩,
 ⟨.tmp 26, .r (.len (.tmp 25)), some (.tmp 20, false)⟩,
 ⟨.tmp 27, .r (.bin .gtr (.tmp 26) (.cst (.int .i64 1024))), some (.tmp 20, false)⟩,
 ⟨.loc 28, .r (.pick (.tmp 20) (.cst (.bool true)) (.tmp 27)), none⟩])
 (.cond (.loc 28) (.seq (.reg [⟨.loc 2, .r (.mov (.cst (.bool true))), none⟩])
 .ret)
 .skip)))
 (.reg [⟨.tmp 11, .r (.mov (.loc 3)), none⟩,
 ⟨.tmp 12, .r (.bin .add (.tmp 11) (.cst (.int .i64 1))), none⟩,
 ⟨.loc 3, .r (.mov (.tmp 12)), none⟩])))
/-- glebe/glebelaw08.long -/
def c_glebelaw08_long : AFn := ⟨29, fun s => List.contains [0, 2, 3, 6, 10, 28] s, (.seq (.reg [⟨.loc 2, .r (.mov (.cst (.bool false))), none⟩])
 (.seq (.seq (.reg [⟨.tmp 4, .r (.mov (.loc 0)), none⟩,
 ⟨.tmp 5, .r (.len (.tmp 4)), none⟩,
 ⟨.loc 6, .r (.bin .gtr (.tmp 5) (.cst (.int .i64 100))), none⟩])
 (.cond (.loc 6) (.seq (.reg [⟨.loc 2, .r (.mov (.cst (.bool true))), none⟩])
 .ret)
 .skip))
 (.seq (.seq (.reg [⟨.loc 3, .r (.mov (.cst (.int .i64 0))), none⟩])
 (.block 0 (.loop (c_glebelaw08_long_l0))))
 (.seq (.reg [⟨.loc 2, .r (.mov (.cst (.bool false))), none⟩])
 .ret)))), [(.tmp (.loc 2))]⟩

/-- glebe/glebelaw08.both -/
def c_glebelaw08_both (f0 f1 f2 f3 f4 f5 f6 f7 f8 f9 f10 f11 f12 : FuncId) : AFn := ⟨90, fun s => List.contains [0, 1, 2, 5, 6, 7, 8, 10, 11, 47, 50, 60, 70, 84] s, (.seq (.reg [⟨.loc 5, .h (.box (.loc 2)), none⟩,
 ⟨.loc 6, .r (.mov (.cst (.bool false))), none⟩])
 (.seq (.seq (.reg [⟨.tmp 9, .r (.off 0 (.loc 5)), none⟩,
 ⟨.loc 10, .r (.load false 1 (.tmp 9)), none⟩])
 (.block 0 (.seq (.reg [⟨.tmp 12, .r (.bin .eql (.loc 10) (.cst (.int .i64 0))), none⟩,
 ⟨.loc 11, .r (.mov (.tmp 12)), none⟩])
 (.cond (.loc 11) (.seq (.reg [⟨.tmp 13, .r (.off 4 (.loc 5)), none⟩,
 ⟨.tmp 14, .r (.load false 1 (.tmp 13)), none⟩,
 ⟨.tmp 15, .call f0 [.tmp 14], none⟩,
 ⟨.loc 7, .r (.mov (.tmp 15)), none⟩])
 (.seq (.dreg ⟨[0, 0, 2, 0, 8, 0, 32, 0, 0, 256, 768, 1920, 4095, 8191], 0, [⟨0, 0, false, .r (.mov (.loc 0)), none⟩,
 ⟨1, 0, false, .r (.off 1 (.loc 5)), none⟩,
 ⟨2, 0, false, .r (.load false 1 (.tmp 1)), none⟩,
 ⟨3, 0, false, .r (.off 2 (.loc 5)), none⟩,
 ⟨4, 0, false, .r (.load false 1 (.tmp 3)), none⟩,
 ⟨5, 0, false, .r (.off 3 (.loc 5)), none⟩,
 ⟨6, 0, false, .r (.load false 1 (.tmp 5)), none⟩,
 ⟨7, 0, false, .r (.mov (.loc 7)), none⟩,
 ⟨8, 0, false, .r (.off 4 (.loc 5)), none⟩,
 ⟨9, 0, false, .r (.load false 1 (.tmp 8)), none⟩,
 ⟨10, 0, false, .r (.len (.tmp 9)), none⟩,
 ⟨11, 0, false, .r (.slc 1 (.tmp 7) none (some (.tmp 10)) none), none⟩,
 ⟨12, 0, true, .call f1 [.tmp 0, .tmp 2, .tmp 4, .tmp 6, .tmp 11], none⟩,
 ⟨13, 0, false, .r (.mov (.tmp 12)), none⟩], [(8, 13)]⟩)
 (.seq (.seq (.reg [⟨.tmp 29, .r (.mov (.loc 8)), none⟩,
 ⟨.tmp 30, .r (.mov (.loc 1)), none⟩,
 ⟨.tmp 31, .r (.off 1 (.loc 5)), none⟩,
 ⟨.tmp 32, .r (.load false 1 (.tmp 31)), none⟩,
 ⟨.tmp 33, .r (.off 2 (.loc 5)), none⟩,
 ⟨.tmp 34, .r (.load false 1 (.tmp 33)), none⟩,
 ⟨.tmp 35, .r (.off 3 (.loc 5)), none⟩,
 ⟨.tmp 36, .r (.load false 1 (.tmp 35)), none⟩,
 ⟨.tmp 37, .r (.off 4 (.loc 5)), none⟩,
 ⟨.tmp 38, .r (.load false 1 (.tmp 37)), none⟩,
 ⟨.tmp 39, .call f2 [.tmp 30, .tmp 32, .tmp 34, .tmp 36, .tmp 38], none⟩,
 ⟨.tmp 40, .r (.bin .neq (.tmp 29) (.tmp 39)), none⟩,
 ⟨.tmp 41, .r (.mov (.tmp 40)), none⟩,
 ⟨.tmp 42, .r (.mov (.loc 7)), some (.tmp 41, false)⟩,
 ⟨.tmp 43, .r (.off 4 (.loc 5)), some (.tmp 41, false)⟩,
 ⟨.tmp 44, .r (.load false 1 (.tmp 43)), some (.tmp 41, false)⟩,
 ⟨.tmp 45, .call f3 [.tmp 42, .tmp 44], some (.tmp 41, false)⟩,
 ⟨.tmp 46, .r (.not (.tmp 45)), some (.tmp 41, false)⟩,
 ⟨.loc 47, .r (.pick (.tmp 41) (.cst (.bool true)) (.tmp 46)), none⟩])
 (.cond (.loc 47) (.seq (.reg [⟨.loc 6, .r (.mov (.cst (.bool false))), none⟩])
 .ret)
 .skip))
 (.reg [⟨.tmp 48, .r (.mov (.loc 7)), none⟩,
 ⟨.tmp 49, .call f4 [.tmp 48], none⟩]))))
 (.seq (.reg [⟨.tmp 51, .r (.bin .eql (.loc 10) (.cst (.int .i64 1))), none⟩,
 ⟨.loc 50, .r (.mov (.tmp 51)), none⟩])
 (.cond (.loc 50) (.seq (.reg [⟨.tmp 52, .r (.mov (.loc 0)), none⟩,
 ⟨.tmp 53, .r (.off 5 (.loc 5)), none⟩,
 ⟨.tmp 54, .r (.load false 1 (.tmp 53)), none⟩,
 ⟨.tmp 55, .call f5 [.tmp 52, .tmp 54], none⟩])
 (.reg [⟨.tmp 56, .r (.mov (.loc 1)), none⟩,
 ⟨.tmp 57, .r (.off 5 (.loc 5)), none⟩,
 ⟨.tmp 58, .r (.load false 1 (.tmp 57)), none⟩,
 ⟨.tmp 59, .call f6 [.tmp 56, .tmp 58], none⟩]))
 (.seq (.reg [⟨.tmp 61, .r (.bin .eql (.loc 10) (.cst (.int .i64 2))), none⟩,
 ⟨.loc 60, .r (.mov (.tmp 61)), none⟩])
 (.cond (.loc 60) (.seq (.reg [⟨.tmp 62, .r (.mov (.loc 0)), none⟩,
 ⟨.tmp 63, .r (.off 2 (.loc 5)), none⟩,
 ⟨.tmp 64, .r (.load false 1 (.tmp 63)), none⟩,
 ⟨.tmp 65, .call f7 [.tmp 62, .tmp 64], none⟩])
 (.reg [⟨.tmp 66, .r (.mov (.loc 1)), none⟩,
 ⟨.tmp 67, .r (.off 2 (.loc 5)), none⟩,
 ⟨.tmp 68, .r (.load false 1 (.tmp 67)), none⟩,
 ⟨.tmp 69, .call f8 [.tmp 66, .tmp 68], none⟩]))
 (.seq (.reg [⟨.tmp 71, .r (.bin .eql (.loc 10) (.cst (.int .i64 3))), none⟩,
 ⟨.loc 70, .r (.mov (.tmp 71)), none⟩])
 (.cond (.loc 70) (.seq (.seq (.dreg ⟨[0, 0, 2, 0, 8, 31, 0, 0, 128, 0, 512, 2047, 4095], 0, [⟨0, 0, false, .r (.mov (.loc 0)), none⟩,
 ⟨1, 0, false, .r (.off 1 (.loc 5)), none⟩,
 ⟨2, 0, false, .r (.load false 1 (.tmp 1)), none⟩,
 ⟨3, 0, false, .r (.off 4 (.loc 5)), none⟩,
 ⟨4, 0, false, .r (.load false 1 (.tmp 3)), none⟩,
 ⟨6, 0, false, .r (.mov (.loc 1)), none⟩,
 ⟨7, 0, false, .r (.off 1 (.loc 5)), none⟩,
 ⟨8, 0, false, .r (.load false 1 (.tmp 7)), none⟩,
 ⟨9, 0, false, .r (.off 4 (.loc 5)), none⟩,
 ⟨10, 0, false, .r (.load false 1 (.tmp 9)), none⟩,
 ⟨5, 0, true, .call f9 [.tmp 0, .tmp 2, .tmp 4], none⟩,
 ⟨11, 0, true, .call f10 [.tmp 6, .tmp 8, .tmp 10], none⟩,
 ⟨12, 0, false, .r (.bin .neq (.tmp 5) (.tmp 11)), none⟩], [(84, 12)]⟩)
 (.cond (.loc 84) (.seq (.reg [⟨.loc 6, .r (.mov (.cst (.bool false))), none⟩])
 .ret)
 .skip))
 (.seq (.reg [⟨.tmp 85, .r (.mov (.loc 0)), none⟩,
 ⟨.tmp 86, .call f11 [.tmp 85], none⟩,
 ⟨.tmp 87, .r (.mov (.loc 1)), none⟩,
 ⟨.tmp 88, .call f12 [.tmp 87], none⟩,
 ⟨.tmp 89, .r (.bin .eql (.tmp 86) (.tmp 88)), none⟩,
 ⟨.loc 6, .r (.mov (.tmp 89)), none⟩])
 .ret))
 .skip))))))))))
 (.seq (.reg [⟨.loc 6, .r (.mov (.cst (.bool true))), none⟩])
 .ret))), [(.tmp (.loc 6))]⟩

/-- glebe/glebelaw08.loads -/
def c_glebelaw08_loads (f0 f1 f2 f3 : FuncId) : AFn := ⟨71, fun s => List.contains [0, 1, 2, 3, 8, 9, 10, 11, 12, 13, 14, 15, 16, 17, 65] s, (.seq (.reg [⟨.loc 8, .r (.mov (.cst (.bool false))), none⟩])
 (.seq (.reg [⟨.tmp 19, .r (.mov (.loc 0)), none⟩,
 ⟨.tmp 20, .r (.mov (.loc 2)), none⟩,
 ⟨.tmp 21, .r (.mov (.loc 3)), none⟩,
 ⟨.tmp 22, .call f0 [.tmp 19, .tmp 20, .tmp 21], none⟩,
 ⟨.tmp 18, .r (.mov (.tmp 22)), none⟩,
 ⟨.tmp 23, .r (.ext (.tmp 18) 0), none⟩,
 ⟨.tmp 24, .r (.ext (.tmp 18) 1), none⟩,
 ⟨.tmp 25, .r (.ext (.tmp 18) 2), none⟩,
 ⟨.loc 9, .r (.mov (.tmp 23)), none⟩,
 ⟨.loc 10, .r (.mov (.tmp 24)), none⟩,
 ⟨.loc 11, .r (.mov (.tmp 25)), none⟩])
 (.seq (.reg [⟨.tmp 27, .r (.mov (.loc 0)), none⟩,
 ⟨.tmp 28, .r (.mov (.loc 2)), none⟩,
 ⟨.tmp 29, .r (.mov (.loc 3)), none⟩,
 ⟨.tmp 30, .call f0 [.tmp 27, .tmp 28, .tmp 29], none⟩,
 ⟨.tmp 26, .r (.mov (.tmp 30)), none⟩,
 ⟨.tmp 31, .r (.ext (.tmp 26) 0), none⟩,
 ⟨.tmp 32, .r (.ext (.tmp 26) 1), none⟩,
 ⟨.tmp 33, .r (.ext (.tmp 26) 2), none⟩,
 ⟨.loc 12, .r (.mov (.tmp 31)), none⟩,
 ⟨.loc 13, .r (.mov (.tmp 32)), none⟩,
 ⟨.loc 14, .r (.mov (.tmp 33)), none⟩])
 (.seq (.reg [⟨.tmp 35, .r (.mov (.loc 1)), none⟩,
 ⟨.tmp 36, .r (.mov (.loc 2)), none⟩,
 ⟨.tmp 37, .r (.mov (.loc 3)), none⟩,
 ⟨.tmp 38, .call f1 [.tmp 35, .tmp 36, .tmp 37], none⟩,
 ⟨.tmp 34, .r (.mov (.tmp 38)), none⟩,
 ⟨.tmp 39, .r (.ext (.tmp 34) 0), none⟩,
 ⟨.tmp 40, .r (.ext (.tmp 34) 1), none⟩,
 ⟨.tmp 41, .r (.ext (.tmp 34) 2), none⟩,
 ⟨.loc 15, .r (.mov (.tmp 39)), none⟩,
 ⟨.loc 16, .r (.mov (.tmp 40)), none⟩,
 ⟨.loc 17, .r (.mov (.tmp 41)), none⟩])
 (.seq (.seq (.reg [⟨.tmp 42, .r (.mov (.loc 11)), none⟩,
 ⟨.tmp 43, .r (.mov (.loc 17)), none⟩,
 ⟨.tmp 44, .r (.bin .neq (.tmp 42) (.tmp 43)), none⟩,
 ⟨.tmp 45, .r (.mov (.tmp 44)), none⟩,
 ⟨.tmp 46, .r (.mov (.loc 14)), some (.tmp 45, false)⟩,
 ⟨.tmp 47, .r (.mov (.loc 17)), some (.tmp 45, false)⟩,
 ⟨.tmp 48, .r (.bin .neq (.tmp 46) (.tmp 47)), some (.tmp 45, false)⟩,
 ⟨.tmp 49, .r (.pick (.tmp 45) (.cst (.bool true)) (.tmp 48)), none⟩,
 ⟨.tmp 50, .r (.mov (.tmp 49)), none⟩,
 ⟨.tmp 51, .r (.mov (.loc 10)), some (.tmp 50, false)⟩,
 ⟨.tmp 52, .r (.mov (.loc 16)), some (.tmp 50, false)⟩,
 ⟨.tmp 53, .r (.bin .neq (.tmp 51) (.tmp 52)), some (.tmp 50, false)⟩,
 ⟨.tmp 54, .r (.pick (.tmp 50) (.cst (.bool true)) (.tmp 53)), none⟩,
 ⟨.tmp 55, .r (.mov (.tmp 54)), none⟩,
 ⟨.tmp 56, .r (.mov (.loc 13)), some (.tmp 55, false)⟩,
 ⟨.tmp 57, .r (.mov (.loc 16)), some (.tmp 55, false)⟩,
 ⟨.tmp 58, .r (.bin .neq (.tmp 56) (.tmp 57)), some (.tmp 55, false)⟩,
 ⟨.tmp 59, .r (.pick (.tmp 55) (.cst (.bool true)) (.tmp 58)), none⟩,
 ⟨.tmp 60, .r (.mov (.tmp 59)), none⟩,
 ⟨.tmp 61, .r (.mov (.loc 9)), some (.tmp 60, false)⟩,
 ⟨.tmp 62, .r (.mov (.loc 15)), some (.tmp 60, false)⟩,
 ⟨.tmp 63, .call f2 [.tmp 61, .tmp 62], some (.tmp 60, false)⟩,
 ⟨.tmp 64, .r (.not (.tmp 63)), some (.tmp 60, false)⟩,
 ⟨.loc 65, .r (.pick (.tmp 60) (.cst (.bool true)) (.tmp 64)), none⟩])
 (.cond (.loc 65) (.seq (.reg [⟨.loc 8, .r (.mov (.cst (.bool false))), none⟩])
 .ret)
 .skip))
 (.seq (.reg [⟨.tmp 66, .r (.mov (.loc 9)), none⟩,
 ⟨.tmp 67, .call f3 [.tmp 66], none⟩])
 (.seq (.reg [⟨.tmp 68, .r (.mov (.loc 12)), none⟩,
 ⟨.tmp 69, .r (.mov (.loc 15)), none⟩,
 ⟨.tmp 70, .call f2 [.tmp 68, .tmp 69], none⟩,
 ⟨.loc 8, .r (.mov (.tmp 70)), none⟩])
 .ret))))))), [(.tmp (.loc 8))]⟩

end Glb
