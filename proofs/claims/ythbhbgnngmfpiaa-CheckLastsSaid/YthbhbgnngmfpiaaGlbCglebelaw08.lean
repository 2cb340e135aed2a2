/-
  What functions of the program are, one by one (the functions that they call as parameters), in a form of which something can be shown.
-/
import Derived.Test.YthbhbgnngmfpiaaGlbLibB
set_option linter.unusedSimpArgs false
set_option linter.unusedVariables false
namespace Glb
open Go
set_option maxRecDepth 100000

def c_glebelaw08_CheckLasts_l0 (f0 f1 f2 f3 f4 f5 f6 f7 f8 f9 : FuncId) : AC := (.seq (.seq (.reg [⟨.tmp 33, .r (.mov (.loc 13)), none⟩,
 ⟨.tmp 34, .r (.mov (.loc 1)), none⟩,
 ⟨.tmp 35, .r (.len (.tmp 34)), none⟩,
 ⟨.loc 36, .r (.bin .lss (.tmp 33) (.tmp 35)), none⟩])
 (.cond (.loc 36) .skip
 (.exit 0)))
 (.seq (.block 1 (.seq (.seq (.reg [⟨.tmp 39, .r (.mov (.loc 13)), none⟩,
 ⟨.tmp 40, .r (.mov (.loc 2)), none⟩,
 ⟨.tmp 41, .r (.len (.tmp 40)), none⟩,
 ⟨.loc 42, .r (.bin .lss (.tmp 39) (.tmp 41)), none⟩])
 (.cond (.loc 42) (.reg [⟨.tmp 43, .r (.mov (.loc 9)), none⟩,
 ⟨.tmp 44, .r (.mov (.loc 2)), none⟩,
 ⟨.tmp 45, .r (.mov (.loc 13)), none⟩,
 ⟨.tmp 46, .r (.idx 1 (.tmp 44) (.tmp 45)), none⟩,
 ⟨.tmp 47, .r (.load false 1 (.tmp 46)), none⟩,
 ⟨.tmp 48, .r (.mov (.loc 0)), none⟩,
 ⟨.tmp 49, .r (.bin .add (.tmp 48) (.cst (.int .i64 4))), none⟩,
 ⟨.tmp 50, .call f2 [.tmp 47, .tmp 49], none⟩,
 ⟨.tmp 51, .call f4 [.tmp 43, .tmp 50], none⟩])
 .skip))
 (.seq (.reg [⟨.tmp 52, .r (.mov (.loc 9)), none⟩,
 ⟨.tmp 53, .r (.mov (.loc 0)), none⟩,
 ⟨.tmp 54, .r (.mov (.loc 12)), none⟩,
 ⟨.tmp 55, .r (.bin .add (.tmp 54) (.cst (.int .i64 1))), none⟩,
 ⟨.tmp 56, .r (.mov (.loc 1)), none⟩,
 ⟨.tmp 57, .r (.mov (.loc 13)), none⟩,
 ⟨.tmp 58, .r (.idx 1 (.tmp 56) (.tmp 57)), none⟩,
 ⟨.tmp 59, .r (.load false 1 (.tmp 58)), none⟩,
 ⟨.tmp 60, .call f5 [.tmp 52, (.cst (.int .i64 2)), .tmp 53, .tmp 55, .tmp 59], none⟩,
 ⟨.loc 14, .r (.mov (.tmp 60)), none⟩])
 (.seq (.seq (.reg [⟨.tmp 61, .r (.mov (.loc 14)), none⟩,
 ⟨.loc 62, .r (.bin .eql (.tmp 61) (.cst (.int .i64 0))), none⟩])
 (.cond (.loc 62) (.seq (.reg [⟨.tmp 63, .r (.mov (.loc 1)), none⟩,
 ⟨.tmp 64, .r (.mov (.loc 13)), none⟩,
 ⟨.tmp 65, .r (.idx 1 (.tmp 63) (.tmp 64)), none⟩,
 ⟨.tmp 66, .r (.load false 1 (.tmp 65)), none⟩,
 ⟨.loc 11, .r (.mov (.tmp 66)), none⟩])
 (.reg [⟨.tmp 67, .r (.mov (.loc 12)), none⟩,
 ⟨.tmp 68, .r (.bin .add (.tmp 67) (.cst (.int .i64 1))), none⟩,
 ⟨.loc 12, .r (.mov (.tmp 68)), none⟩]))
 (.seq (.reg [⟨.tmp 69, .r (.mov (.loc 14)), none⟩,
 ⟨.tmp 70, .r (.bin .neq (.tmp 69) (.cst (.int .i64 2))), none⟩,
 ⟨.tmp 71, .r (.mov (.tmp 70)), none⟩,
 ⟨.tmp 72, .r (.mov (.loc 14)), some (.tmp 71, true)⟩,
 ⟨.tmp 73, .r (.bin .neq (.tmp 72) (.cst (.int .i64 10))), some (.tmp 71, true)⟩,
 ⟨.tmp 74, .r (.pick (.tmp 71) (.tmp 73) (.cst (.bool false))), none⟩,
 ⟨.tmp 75, .r (.mov (.tmp 74)), none⟩,
 ⟨.tmp 76, .r (.mov (.loc 14)), some (.tmp 75, false)⟩,
 ⟨.tmp 77, .r (.bin .eql (.tmp 76) (.cst (.int .i64 2))), some (.tmp 75, false)⟩,
 ⟨.tmp 78, .r (.mov (.loc 1)), some (.tmp 75, false)⟩,
 ⟨.tmp 79, .r (.mov (.loc 13)), some (.tmp 75, false)⟩,
 ⟨.tmp 80, .r (.idx 1 (.tmp 78) (.tmp 79)), some (.tmp 75, false)⟩,
 ⟨.tmp 81, .r (.load false 1 (.tmp 80)), some (.tmp 75, false)⟩,
 ⟨.tmp 82, .r (.len (.tmp 81)), some (.tmp 75, false)⟩,
 ⟨.tmp 83, .r (.mov (.loc 0)), some (.tmp 75, false)⟩,
 ⟨.tmp 84, .r (.bin .mul (.tmp 83) (.cst (.int .i64 40))), some (.tmp 75, false)⟩,
 ⟨.tmp 85, .r (.bin .gtr (.tmp 82) (.tmp 84)), some (.tmp 75, false)⟩,
 ⟨.tmp 86, .r (.beq .neq (.tmp 77) (.tmp 85)), some (.tmp 75, false)⟩,
 ⟨.loc 87, .r (.pick (.tmp 75) (.cst (.bool true)) (.tmp 86)), none⟩])
 (.cond (.loc 87) (.seq (.reg [⟨.loc 8, .r (.mov (.cst (.bool false))), none⟩])
 .ret)
 .skip))))
 (.seq (.seq (.reg [⟨.tmp 88, .r (.mov (.loc 13)), none⟩,
 ⟨.tmp 89, .r (.mov (.loc 3)), none⟩,
 ⟨.tmp 90, .r (.len (.tmp 89)), none⟩,
 ⟨.tmp 91, .r (.bin .lss (.tmp 88) (.tmp 90)), none⟩,
 ⟨.tmp 92, .r (.mov (.tmp 91)), none⟩,
 ⟨.tmp 93, .r (.mov (.loc 9)), some (.tmp 92, false)⟩,
 ⟨.tmp 94, .call f6 [.tmp 93], some (.tmp 92, false)⟩,
 ⟨.loc 95, .r (.pick (.tmp 92) (.cst (.bool true)) (.tmp 94)), none⟩])
 (.cond (.loc 95) (.seq (.reg [⟨.loc 15, .r (.mov (.cst .nils)), none⟩])
 (.seq (.seq (.reg [⟨.tmp 96, .r (.mov (.loc 13)), none⟩,
 ⟨.tmp 97, .r (.mov (.loc 3)), none⟩,
 ⟨.tmp 98, .r (.len (.tmp 97)), none⟩,
 ⟨.loc 99, .r (.bin .lss (.tmp 96) (.tmp 98)), none⟩])
 (.cond (.loc 99) (.reg [⟨.tmp 100, .r (.mov (.loc 3)), none⟩,
 ⟨.tmp 101, .r (.mov (.loc 13)), none⟩,
 ⟨.tmp 102, .r (.idx 1 (.tmp 100) (.tmp 101)), none⟩,
 ⟨.tmp 103, .r (.load false 1 (.tmp 102)), none⟩,
 ⟨.loc 15, .r (.mov (.tmp 103)), none⟩])
 .skip))
 (.reg [⟨.tmp 104, .r (.mov (.loc 9)), none⟩,
 ⟨.tmp 105, .r (.mov (.loc 15)), none⟩,
 ⟨.tmp 106, .call f7 [.tmp 104, .tmp 105], none⟩])))
 .skip))
 (.seq (.reg [⟨.tmp 108, .r (.mov (.loc 9)), none⟩,
 ⟨.tmp 109, .r (.mov (.loc 0)), none⟩,
 ⟨.tmp 110, .call f8 [.tmp 108, (.cst (.int .i64 2)), .tmp 109], none⟩,
 ⟨.tmp 107, .r (.mov (.tmp 110)), none⟩,
 ⟨.tmp 111, .r (.ext (.tmp 107) 0), none⟩,
 ⟨.tmp 112, .r (.ext (.tmp 107) 1), none⟩,
 ⟨.tmp 113, .r (.ext (.tmp 107) 2), none⟩,
 ⟨.loc 16, .r (.mov (.tmp 111)), none⟩,
 ⟨.loc 17, .r (.mov (.tmp 112)), none⟩,
 ⟨.loc 18, .r (.mov (.tmp 113)), none⟩])
 (.seq (.seq (.reg [⟨.tmp 114, .r (.mov (.loc 18)), none⟩,
 ⟨.loc 115, .r (.bin .eql (.tmp 114) (.cst (.int .i64 6))), none⟩])
 (.cond (.loc 115) (.seq (.seq (.reg [⟨.tmp 116, .r (.mov (.loc 12)), none⟩,
 ⟨.loc 117, .r (.bin .neq (.tmp 116) (.cst (.int .i64 0))), none⟩])
 (.cond (.loc 117) (.seq (.reg [⟨.loc 8, .r (.mov (.cst (.bool false))), none⟩])
 .ret)
 .skip))
 (.exit 1))
 .skip))
 (.seq (.seq (.reg [⟨.tmp 118, .r (.mov (.loc 18)), none⟩,
 ⟨.tmp 119, .r (.bin .neq (.tmp 118) (.cst (.int .i64 0))), none⟩,
 ⟨.tmp 120, .r (.mov (.tmp 119)), none⟩,
 ⟨.tmp 121, .r (.mov (.loc 17)), some (.tmp 120, false)⟩,
 ⟨.tmp 122, .r (.mov (.loc 12)), some (.tmp 120, false)⟩,
 ⟨.tmp 123, .r (.bin .neq (.tmp 121) (.tmp 122)), some (.tmp 120, false)⟩,
 ⟨.tmp 124, .r (.mov (.tmp 123)), some (.tmp 120, false)⟩,
 ⟨.tmp 125, .r (.mov (.loc 17)), some (.tmp 124, true)⟩,
 ⟨.tmp 126, .r (.mov (.loc 12)), some (.tmp 124, true)⟩,
 ⟨.tmp 127, .r (.bin .add (.tmp 126) (.cst (.int .i64 1))), some (.tmp 124, true)⟩,
 ⟨.tmp 128, .r (.bin .neq (.tmp 125) (.tmp 127)), some (.tmp 124, true)⟩,
 ⟨.tmp 129, .r (.pick (.tmp 124) (.tmp 128) (.cst (.bool false))), some (.tmp 120, false)⟩,
 ⟨.tmp 130, .r (.pick (.tmp 120) (.cst (.bool true)) (.tmp 129)), none⟩,
 ⟨.tmp 131, .r (.mov (.tmp 130)), none⟩,
 ⟨.tmp 132, .r (.mov (.loc 17)), some (.tmp 131, false)⟩,
 ⟨.tmp 133, .r (.mov (.loc 12)), some (.tmp 131, false)⟩,
 ⟨.tmp 134, .r (.bin .eql (.tmp 132) (.tmp 133)), some (.tmp 131, false)⟩,
 ⟨.tmp 135, .r (.mov (.tmp 134)), some (.tmp 131, false)⟩,
 ⟨.tmp 136, .r (.mov (.loc 16)), some (.tmp 135, true)⟩,
 ⟨.tmp 137, .r (.mov (.loc 11)), some (.tmp 135, true)⟩,
 ⟨.tmp 138, .call f9 [.tmp 136, .tmp 137], some (.tmp 135, true)⟩,
 ⟨.tmp 139, .r (.not (.tmp 138)), some (.tmp 135, true)⟩,
 ⟨.tmp 140, .r (.pick (.tmp 135) (.tmp 139) (.cst (.bool false))), some (.tmp 131, false)⟩,
 ⟨.tmp 141, .r (.pick (.tmp 131) (.cst (.bool true)) (.tmp 140)), none⟩,
 ⟨.tmp 142, .r (.mov (.tmp 141)), none⟩,
 ⟨.tmp 143, .r (.mov (.loc 17)), some (.tmp 142, false)⟩,
 ⟨.tmp 144, .r (.mov (.loc 12)), some (.tmp 142, false)⟩,
 ⟨.tmp 145, .r (.bin .add (.tmp 144) (.cst (.int .i64 1))), some (.tmp 142, false)⟩,
 ⟨.tmp 146, .r (.bin .eql (.tmp 143) (.tmp 145)), some (.tmp 142, false)⟩,
 ⟨.tmp 147, .r (.mov (.tmp 146)), some (.tmp 142, false)⟩,
 ⟨.tmp 148, .r (.mov (.loc 14)), some (.tmp 147, true)⟩,
 ⟨.tmp 149, .r (.bin .neq (.tmp 148) (.cst (.int .i64 10))), some (.tmp 147, true)⟩,
 ⟨.tmp 150, .r (.mov (.tmp 149)), some (.tmp 147, true)⟩,
 ⟨.tmp 151, .r (.mov (.loc 16)), some (.tmp 150, false)⟩,
 ⟨.tmp 152, .r (.mov (.loc 1)), some (.tmp 150, false)⟩,
 ⟨.tmp 153, .r (.mov (.loc 13)), some (.tmp 150, false)⟩,
 ⟨.tmp 154, .r (.idx 1 (.tmp 152) (.tmp 153)), some (.tmp 150, false)⟩,
 ⟨.tmp 155, .r (.load false 1 (.tmp 154)), some (.tmp 150, false)⟩,
 ⟨.tmp 156, .call f9 [.tmp 151, .tmp 155], some (.tmp 150, false)⟩,
 ⟨.tmp 157, .r (.not (.tmp 156)), some (.tmp 150, false)⟩,
 ⟨.tmp 158, .r (.pick (.tmp 150) (.cst (.bool true)) (.tmp 157)), some (.tmp 147, true)⟩,
 ⟨.tmp 159, .r (.pick (.tmp 147) (.tmp 158) (.cst (.bool false))), some (.tmp 142, false)⟩,
 ⟨.loc 160, .r (.pick (.tmp 142) (.cst (.bool true)) (.tmp 159)), none⟩])
 (.cond (.loc 160) (.seq (.reg [⟨.loc 8, .r (.mov (.cst (.bool false))), none⟩])
 .ret)
 .skip))
 (.seq (.reg [⟨.tmp 161, .r (.mov (.loc 16)), none⟩,
 ⟨.loc 11, .r (.mov (.tmp 161)), none⟩])
 (.reg [⟨.tmp 162, .r (.mov (.loc 17)), none⟩,
 ⟨.loc 12, .r (.mov (.tmp 162)), none⟩]))))))))))
 (.reg [⟨.tmp 37, .r (.mov (.loc 13)), none⟩,
 ⟨.tmp 38, .r (.bin .add (.tmp 37) (.cst (.int .i64 1))), none⟩,
 ⟨.loc 13, .r (.mov (.tmp 38)), none⟩])))
/-- glebe/glebelaw08.CheckLasts -/
def c_glebelaw08_CheckLasts (f0 f1 f2 f3 f4 f5 f6 f7 f8 f9 : FuncId) : AFn := ⟨163, fun s => List.contains [0, 1, 2, 3, 8, 9, 11, 12, 13, 14, 15, 16, 17, 18, 20, 22, 36, 42, 62, 87, 95, 99, 115, 117, 160] s, (.seq (.reg [⟨.loc 8, .r (.mov (.cst (.bool false))), none⟩])
 (.seq (.seq (.reg [⟨.tmp 19, .call f0 [], none⟩,
 ⟨.loc 20, .r (.not (.tmp 19)), none⟩])
 (.cond (.loc 20) (.seq (.reg [⟨.loc 8, .r (.mov (.cst (.bool false))), none⟩])
 .ret)
 .skip))
 (.seq (.seq (.reg [⟨.tmp 21, .r (.mov (.loc 1)), none⟩,
 ⟨.loc 22, .call f1 [.tmp 21], none⟩])
 (.cond (.loc 22) (.seq (.reg [⟨.loc 8, .r (.mov (.cst (.bool true))), none⟩])
 .ret)
 .skip))
 (.seq (.reg [⟨.tmp 23, .r (.mov (.loc 0)), none⟩,
 ⟨.tmp 24, .call f2 [.tmp 23, (.cst (.int .i64 64))], none⟩,
 ⟨.tmp 25, .r (.bin .add (.cst (.int .i64 1)) (.tmp 24)), none⟩,
 ⟨.loc 0, .r (.mov (.tmp 25)), none⟩])
 (.seq (.reg [⟨.tmp 27, .r (.mov (.loc 0)), none⟩,
 ⟨.tmp 28, .r (.bin .mul (.cst (.int .i64 2)) (.tmp 27)), none⟩,
 ⟨.tmp 29, .r (.bin .add (.tmp 28) (.cst (.int .i64 3))), none⟩,
 ⟨.tmp 30, .call f3 [.tmp 29], none⟩,
 ⟨.tmp 26, .r (.mov (.tmp 30)), none⟩,
 ⟨.tmp 31, .r (.ext (.tmp 26) 0), none⟩,
 ⟨.tmp 32, .r (.ext (.tmp 26) 1), none⟩,
 ⟨.loc 9, .r (.mov (.tmp 31)), none⟩,
 ⟨.tmp 10, .r (.mov (.tmp 32)), none⟩])
 (.seq (.reg [⟨.loc 11, .r (.mov (.cst .nils)), none⟩])
 (.seq (.reg [⟨.loc 12, .r (.mov (.cst (.int .i64 0))), none⟩])
 (.seq (.seq (.reg [⟨.loc 13, .r (.mov (.cst (.int .i64 0))), none⟩])
 (.block 0 (.loop (c_glebelaw08_CheckLasts_l0 f0 f1 f2 f3 f4 f5 f6 f7 f8 f9))))
 (.seq (.reg [⟨.loc 8, .r (.mov (.cst (.bool true))), none⟩])
 .ret))))))))), [(.tmp (.loc 8))]⟩

/-- glebe/glebelaw08.works -/
def c_glebelaw08_works (f0 f1 f2 f3 f4 : FuncId) : AFn := ⟨50, fun s => List.contains [0, 1, 2, 3, 4, 5, 6, 12] s, (.seq (.reg [⟨.loc 0, .r (.mov (.cst (.bool false))), none⟩])
 (.seq (.reg [⟨.tmp 8, .call f0 [(.cst (.int .i64 10))], none⟩,
 ⟨.tmp 7, .r (.mov (.tmp 8)), none⟩,
 ⟨.tmp 9, .r (.ext (.tmp 7) 0), none⟩,
 ⟨.tmp 10, .r (.ext (.tmp 7) 1), none⟩,
 ⟨.loc 1, .r (.mov (.tmp 9)), none⟩,
 ⟨.loc 2, .r (.mov (.tmp 10)), none⟩])
 (.seq (.seq (.reg [⟨.tmp 11, .r (.mov (.loc 2)), none⟩,
 ⟨.loc 12, .r (.bin .neq (.tmp 11) (.cst (.int .i64 0))), none⟩])
 (.cond (.loc 12) (.seq (.reg [⟨.loc 0, .r (.mov (.cst (.bool false))), none⟩])
 .ret)
 .skip))
 (.seq (.reg [⟨.tmp 13, .r (.mov (.loc 1)), none⟩,
 ⟨.tmp 14, .h (.bsl 1 [(.cst (.int .u8 7))]), none⟩,
 ⟨.tmp 15, .call f1 [.tmp 13, (.cst (.int .i64 1)), (.cst (.int .i64 3)), (.cst (.int .i64 1)), .tmp 14], none⟩,
 ⟨.loc 3, .r (.mov (.tmp 15)), none⟩])
 (.seq (.reg [⟨.tmp 16, .r (.mov (.loc 1)), none⟩,
 ⟨.tmp 17, .call f2 [(.cst (.int .i64 120))], none⟩,
 ⟨.tmp 18, .call f1 [.tmp 16, (.cst (.int .i64 1)), (.cst (.int .i64 3)), (.cst (.int .i64 2)), .tmp 17], none⟩,
 ⟨.loc 4, .r (.mov (.tmp 18)), none⟩])
 (.seq (.reg [⟨.tmp 20, .r (.mov (.loc 1)), none⟩,
 ⟨.tmp 21, .call f3 [.tmp 20, (.cst (.int .i64 1)), (.cst (.int .i64 3))], none⟩,
 ⟨.tmp 19, .r (.mov (.tmp 21)), none⟩,
 ⟨.tmp 22, .r (.ext (.tmp 19) 0), none⟩,
 ⟨.tmp 23, .r (.ext (.tmp 19) 1), none⟩,
 ⟨.tmp 24, .r (.ext (.tmp 19) 2), none⟩,
 ⟨.loc 5, .r (.mov (.tmp 22)), none⟩,
 ⟨.loc 6, .r (.mov (.tmp 23)), none⟩,
 ⟨.loc 2, .r (.mov (.tmp 24)), none⟩])
 (.seq (.reg [⟨.tmp 25, .r (.mov (.loc 3)), none⟩,
 ⟨.tmp 26, .r (.bin .eql (.tmp 25) (.cst (.int .i64 0))), none⟩,
 ⟨.tmp 27, .r (.mov (.tmp 26)), none⟩,
 ⟨.tmp 28, .r (.mov (.loc 4)), some (.tmp 27, true)⟩,
 ⟨.tmp 29, .r (.bin .eql (.tmp 28) (.cst (.int .i64 0))), some (.tmp 27, true)⟩,
 ⟨.tmp 30, .r (.pick (.tmp 27) (.tmp 29) (.cst (.bool false))), none⟩,
 ⟨.tmp 31, .r (.mov (.tmp 30)), none⟩,
 ⟨.tmp 32, .r (.mov (.loc 2)), some (.tmp 31, true)⟩,
 ⟨.tmp 33, .r (.bin .eql (.tmp 32) (.cst (.int .i64 0))), some (.tmp 31, true)⟩,
 ⟨.tmp 34, .r (.pick (.tmp 31) (.tmp 33) (.cst (.bool false))), none⟩,
 ⟨.tmp 35, .r (.mov (.tmp 34)), none⟩,
 ⟨.tmp 36, .r (.mov (.loc 6)), some (.tmp 35, true)⟩,
 ⟨.tmp 37, .r (.bin .eql (.tmp 36) (.cst (.int .i64 2))), some (.tmp 35, true)⟩,
 ⟨.tmp 38, .r (.pick (.tmp 35) (.tmp 37) (.cst (.bool false))), none⟩,
 ⟨.tmp 39, .r (.mov (.tmp 38)), none⟩,
 ⟨.tmp 40, .r (.mov (.loc 5)), some (.tmp 39, true)⟩,
 ⟨.tmp 41, .call f2 [(.cst (.int .i64 120))], some (.tmp 39, true)⟩,
 ⟨.tmp 42, .call f4 [.tmp 40, .tmp 41], some (.tmp 39, true)⟩,
 ⟨.tmp 43, .r (.pick (.tmp 39) (.tmp 42) (.cst (.bool false))), none⟩,
 ⟨.tmp 44, .r (.mov (.tmp 43)), none⟩,
 ⟨.tmp 45, .r (.mov (.loc 1)), some (.tmp 44, true)⟩,
 ⟨.tmp 46, .call f2 [(.cst (.int .i64 121))], some (.tmp 44, true)⟩,
 ⟨.tmp 47, .call f1 [.tmp 45, (.cst (.int .i64 1)), (.cst (.int .i64 3)), (.cst (.int .i64 3)), .tmp 46], some (.tmp 44, true)⟩,
 ⟨.tmp 48, .r (.bin .eql (.tmp 47) (.cst (.int .i64 2))), some (.tmp 44, true)⟩,
 ⟨.tmp 49, .r (.pick (.tmp 44) (.tmp 48) (.cst (.bool false))), none⟩,
 ⟨.loc 0, .r (.mov (.tmp 49)), none⟩])
 .ret))))))), [(.tmp (.loc 0))]⟩

def c_glebelaw08_great_l0 : AC := (.seq (.seq (.reg [⟨.tmp 7, .r (.mov (.loc 3)), none⟩,
 ⟨.tmp 8, .r (.mov (.loc 0)), none⟩,
 ⟨.tmp 9, .r (.len (.tmp 8)), none⟩,
 ⟨.loc 10, .r (.bin .lss (.tmp 7) (.tmp 9)), none⟩])
 (.cond (.loc 10) .skip
 (.exit 0)))
 (.seq (.block 1 (.seq (.reg [⟨.tmp 13, .r (.mov (.loc 0)), none⟩,
 ⟨.tmp 14, .r (.mov (.loc 3)), none⟩,
 ⟨.tmp 15, .r (.idx 1 (.tmp 13) (.tmp 14)), none⟩,
 ⟨.tmp 16, .r (.load false 1 (.tmp 15)), none⟩,
 ⟨.tmp 17, .r (.len (.tmp 16)), none⟩,
 ⟨.loc 18, .r (.bin .gtr (.tmp 17) (.cst (.int .i64 4096))), none⟩])
 (.cond (.loc 18) (.seq (.reg [⟨.loc 2, .r (.mov (.cst (.bool true))), none⟩])
 .ret)
 .skip)))
 (.reg [⟨.tmp 11, .r (.mov (.loc 3)), none⟩,
 ⟨.tmp 12, .r (.bin .add (.tmp 11) (.cst (.int .i64 1))), none⟩,
 ⟨.loc 3, .r (.mov (.tmp 12)), none⟩])))
/-- glebe/glebelaw08.great -/
def c_glebelaw08_great : AFn := ⟨19, fun s => List.contains [0, 2, 3, 6, 10, 18] s, (.seq (.reg [⟨.loc 2, .r (.mov (.cst (.bool false))), none⟩])
 (.seq (.seq (.reg [⟨.tmp 4, .r (.mov (.loc 0)), none⟩,
 ⟨.tmp 5, .r (.len (.tmp 4)), none⟩,
 ⟨.loc 6, .r (.bin .gtr (.tmp 5) (.cst (.int .i64 60))), none⟩])
 (.cond (.loc 6) (.seq (.reg [⟨.loc 2, .r (.mov (.cst (.bool true))), none⟩])
 .ret)
 .skip))
 (.seq (.seq (.reg [⟨.loc 3, .r (.mov (.cst (.int .i64 0))), none⟩])
 (.block 0 (.loop (c_glebelaw08_great_l0))))
 (.seq (.reg [⟨.loc 2, .r (.mov (.cst (.bool false))), none⟩])
 .ret)))), [(.tmp (.loc 2))]⟩

end Glb
