/-
  What functions of the program are, one by one (the functions that they call as parameters), in a form of which something can be shown.
-/
import Derived.Test.YthbhbgnngmfpiaaGlbLibB
set_option linter.unusedSimpArgs false
set_option linter.unusedVariables false
namespace Glb
open Go
set_option maxRecDepth 100000

/-- glebe/glebelaw04.Looks -/
def c_glebelaw04_Looks (f0 f1 f2 f3 f4 f5 f6 f7 f8 f9 : FuncId) : AFn := ⟨93, fun s => List.contains [0, 1, 2, 6, 7, 8, 9, 10, 11, 12, 13, 14, 52, 68] s, (.seq (.reg [⟨.loc 6, .r (.mov (.cst (.bool false))), none⟩])
 (.seq (.reg [⟨.tmp 16, .r (.mov (.loc 0)), none⟩,
 ⟨.tmp 17, .r (.mov (.loc 2)), none⟩,
 ⟨.tmp 18, .call f0 [.tmp 16, .tmp 17], none⟩,
 ⟨.tmp 15, .r (.mov (.tmp 18)), none⟩,
 ⟨.tmp 19, .r (.ext (.tmp 15) 0), none⟩,
 ⟨.tmp 20, .r (.ext (.tmp 15) 1), none⟩,
 ⟨.loc 7, .r (.mov (.tmp 19)), none⟩,
 ⟨.loc 8, .r (.mov (.tmp 20)), none⟩])
 (.seq (.reg [⟨.tmp 22, .r (.mov (.loc 0)), none⟩,
 ⟨.tmp 23, .r (.mov (.loc 2)), none⟩,
 ⟨.tmp 24, .call f0 [.tmp 22, .tmp 23], none⟩,
 ⟨.tmp 21, .r (.mov (.tmp 24)), none⟩,
 ⟨.tmp 25, .r (.ext (.tmp 21) 0), none⟩,
 ⟨.tmp 26, .r (.ext (.tmp 21) 1), none⟩,
 ⟨.loc 9, .r (.mov (.tmp 25)), none⟩,
 ⟨.loc 10, .r (.mov (.tmp 26)), none⟩])
 (.seq (.reg [⟨.tmp 28, .r (.mov (.loc 1)), none⟩,
 ⟨.tmp 29, .r (.mov (.loc 2)), none⟩,
 ⟨.tmp 30, .call f1 [.tmp 28, .tmp 29], none⟩,
 ⟨.tmp 27, .r (.mov (.tmp 30)), none⟩,
 ⟨.tmp 31, .r (.ext (.tmp 27) 0), none⟩,
 ⟨.tmp 32, .r (.ext (.tmp 27) 1), none⟩,
 ⟨.loc 11, .r (.mov (.tmp 31)), none⟩,
 ⟨.loc 12, .r (.mov (.tmp 32)), none⟩])
 (.seq (.seq (.reg [⟨.tmp 33, .r (.mov (.loc 8)), none⟩,
 ⟨.tmp 34, .r (.mov (.loc 12)), none⟩,
 ⟨.tmp 35, .r (.bin .neq (.tmp 33) (.tmp 34)), none⟩,
 ⟨.tmp 36, .r (.mov (.tmp 35)), none⟩,
 ⟨.tmp 37, .r (.mov (.loc 10)), some (.tmp 36, false)⟩,
 ⟨.tmp 38, .r (.mov (.loc 12)), some (.tmp 36, false)⟩,
 ⟨.tmp 39, .r (.bin .neq (.tmp 37) (.tmp 38)), some (.tmp 36, false)⟩,
 ⟨.tmp 40, .r (.pick (.tmp 36) (.cst (.bool true)) (.tmp 39)), none⟩,
 ⟨.tmp 41, .r (.mov (.tmp 40)), none⟩,
 ⟨.tmp 42, .r (.mov (.loc 7)), some (.tmp 41, false)⟩,
 ⟨.tmp 43, .r (.mov (.loc 11)), some (.tmp 41, false)⟩,
 ⟨.tmp 44, .call f2 [.tmp 42, .tmp 43], some (.tmp 41, false)⟩,
 ⟨.tmp 45, .r (.not (.tmp 44)), some (.tmp 41, false)⟩,
 ⟨.tmp 46, .r (.pick (.tmp 41) (.cst (.bool true)) (.tmp 45)), none⟩,
 ⟨.tmp 47, .r (.mov (.tmp 46)), none⟩,
 ⟨.tmp 48, .r (.mov (.loc 9)), some (.tmp 47, false)⟩,
 ⟨.tmp 49, .r (.mov (.loc 11)), some (.tmp 47, false)⟩,
 ⟨.tmp 50, .call f2 [.tmp 48, .tmp 49], some (.tmp 47, false)⟩,
 ⟨.tmp 51, .r (.not (.tmp 50)), some (.tmp 47, false)⟩,
 ⟨.loc 52, .r (.pick (.tmp 47) (.cst (.bool true)) (.tmp 51)), none⟩])
 (.cond (.loc 52) (.seq (.reg [⟨.loc 6, .r (.mov (.cst (.bool false))), none⟩])
 .ret)
 .skip))
 (.seq (.reg [⟨.tmp 53, .r (.mov (.loc 7)), none⟩,
 ⟨.tmp 54, .call f3 [.tmp 53], none⟩])
 (.seq (.reg [⟨.tmp 55, .r (.mov (.loc 0)), none⟩,
 ⟨.tmp 56, .call f4 [.tmp 55], none⟩,
 ⟨.loc 13, .r (.mov (.tmp 56)), none⟩])
 (.seq (.reg [⟨.tmp 57, .r (.mov (.loc 1)), none⟩,
 ⟨.tmp 58, .call f5 [.tmp 57], none⟩,
 ⟨.loc 14, .r (.mov (.tmp 58)), none⟩])
 (.seq (.seq (.reg [⟨.tmp 59, .r (.mov (.loc 9)), none⟩,
 ⟨.tmp 60, .r (.mov (.loc 11)), none⟩,
 ⟨.tmp 61, .call f2 [.tmp 59, .tmp 60], none⟩,
 ⟨.tmp 62, .r (.not (.tmp 61)), none⟩,
 ⟨.tmp 63, .r (.mov (.tmp 62)), none⟩,
 ⟨.tmp 64, .r (.mov (.loc 13)), some (.tmp 63, false)⟩,
 ⟨.tmp 65, .r (.mov (.loc 14)), some (.tmp 63, false)⟩,
 ⟨.tmp 66, .call f6 [.tmp 64, .tmp 65], some (.tmp 63, false)⟩,
 ⟨.tmp 67, .r (.not (.tmp 66)), some (.tmp 63, false)⟩,
 ⟨.loc 68, .r (.pick (.tmp 63) (.cst (.bool true)) (.tmp 67)), none⟩])
 (.cond (.loc 68) (.seq (.reg [⟨.loc 6, .r (.mov (.cst (.bool false))), none⟩])
 .ret)
 .skip))
 (.seq (.reg [⟨.tmp 69, .r (.mov (.loc 13)), none⟩,
 ⟨.tmp 70, .call f7 [.tmp 69], none⟩])
 (.seq (.dreg ⟨[0, 1, 0, 7, 15, 31, 63, 31, 159, 415, 927, 2047, 4095, 8191, 16383, 32767, 16383, 81919, 212991, 475135, 1048575, 2097151, 4194303], 0, [⟨0, 0, false, .r (.mov (.loc 0)), none⟩,
 ⟨2, 0, false, .r (.mov (.loc 14)), none⟩,
 ⟨1, 0, true, .call f4 [.tmp 0], none⟩,
 ⟨3, 0, true, .call f6 [.tmp 1, .tmp 2], none⟩,
 ⟨4, 0, false, .r (.mov (.tmp 3)), none⟩,
 ⟨5, 0, false, .r (.mov (.loc 0)), some (.tmp 4, true)⟩,
 ⟨7, 0, false, .r (.mov (.loc 1)), some (.tmp 4, true)⟩,
 ⟨8, 0, false, .r (.chk (.tmp 7)), some (.tmp 4, true)⟩,
 ⟨9, 0, false, .r (.off 0 (.tmp 8)), some (.tmp 4, true)⟩,
 ⟨10, 0, false, .r (.load false 1 (.tmp 9)), some (.tmp 4, true)⟩,
 ⟨6, 0, true, .call f8 [.tmp 5], some (.tmp 4, true)⟩,
 ⟨11, 0, false, .r (.bin .eql (.tmp 6) (.tmp 10)), some (.tmp 4, true)⟩,
 ⟨12, 0, false, .r (.pick (.tmp 4) (.tmp 11) (.cst (.bool false))), none⟩,
 ⟨13, 0, false, .r (.mov (.tmp 12)), none⟩,
 ⟨14, 0, false, .r (.mov (.loc 0)), some (.tmp 13, true)⟩,
 ⟨16, 0, false, .r (.mov (.loc 1)), some (.tmp 13, true)⟩,
 ⟨17, 0, false, .r (.chk (.tmp 16)), some (.tmp 13, true)⟩,
 ⟨18, 0, false, .r (.off 2 (.tmp 17)), some (.tmp 13, true)⟩,
 ⟨19, 0, false, .r (.load false 1 (.tmp 18)), some (.tmp 13, true)⟩,
 ⟨15, 0, true, .call f9 [.tmp 14], some (.tmp 13, true)⟩,
 ⟨20, 0, false, .r (.beq .eql (.tmp 15) (.tmp 19)), some (.tmp 13, true)⟩,
 ⟨21, 0, false, .r (.pick (.tmp 13) (.tmp 20) (.cst (.bool false))), none⟩,
 ⟨22, 0, false, .r (.mov (.tmp 21)), none⟩], [(6, 22)]⟩)
 .ret))))))))))), [(.tmp (.loc 6))]⟩

def c_glebelaw04_All_l0 (f0 : FuncId) : AC := (.seq (.seq (.reg [⟨.tmp 7, .r (.mov (.loc 5)), none⟩,
 ⟨.tmp 8, .r (.mov (.loc 1)), none⟩,
 ⟨.tmp 9, .r (.chk (.tmp 8)), none⟩,
 ⟨.tmp 10, .r (.off 3 (.tmp 9)), none⟩,
 ⟨.tmp 11, .r (.load false 1 (.tmp 10)), none⟩,
 ⟨.tmp 12, .r (.len (.tmp 11)), none⟩,
 ⟨.loc 13, .r (.bin .lss (.tmp 7) (.tmp 12)), none⟩])
 (.cond (.loc 13) .skip
 (.exit 0)))
 (.seq (.block 1 (.seq (.reg [⟨.tmp 16, .r (.mov (.loc 0)), none⟩,
 ⟨.tmp 17, .r (.mov (.loc 1)), none⟩,
 ⟨.tmp 18, .r (.mov (.loc 1)), none⟩,
 ⟨.tmp 19, .r (.chk (.tmp 18)), none⟩,
 ⟨.tmp 20, .r (.off 3 (.tmp 19)), none⟩,
 ⟨.tmp 21, .r (.load false 1 (.tmp 20)), none⟩,
 ⟨.tmp 22, .r (.mov (.loc 5)), none⟩,
 ⟨.tmp 23, .r (.idx 3 (.tmp 21) (.tmp 22)), none⟩,
 ⟨.tmp 24, .r (.off 0 (.tmp 23)), none⟩,
 ⟨.tmp 25, .r (.load false 1 (.tmp 24)), none⟩,
 ⟨.tmp 26, .call f0 [.tmp 16, .tmp 17, .tmp 25], none⟩,
 ⟨.loc 27, .r (.not (.tmp 26)), none⟩])
 (.cond (.loc 27) (.seq (.reg [⟨.loc 4, .r (.mov (.cst (.bool false))), none⟩])
 .ret)
 .skip)))
 (.reg [⟨.tmp 14, .r (.mov (.loc 5)), none⟩,
 ⟨.tmp 15, .r (.bin .add (.tmp 14) (.cst (.int .i64 1))), none⟩,
 ⟨.loc 5, .r (.mov (.tmp 15)), none⟩])))
def c_glebelaw04_All_l1 (f0 : FuncId) : AC := (.seq (.seq (.reg [⟨.tmp 28, .r (.mov (.loc 6)), none⟩,
 ⟨.tmp 29, .r (.mov (.loc 1)), none⟩,
 ⟨.tmp 30, .r (.chk (.tmp 29)), none⟩,
 ⟨.tmp 31, .r (.off 4 (.tmp 30)), none⟩,
 ⟨.tmp 32, .r (.load false 1 (.tmp 31)), none⟩,
 ⟨.tmp 33, .r (.len (.tmp 32)), none⟩,
 ⟨.loc 34, .r (.bin .lss (.tmp 28) (.tmp 33)), none⟩])
 (.cond (.loc 34) .skip
 (.exit 2)))
 (.seq (.block 3 (.seq (.reg [⟨.tmp 37, .r (.mov (.loc 0)), none⟩,
 ⟨.tmp 38, .r (.mov (.loc 1)), none⟩,
 ⟨.tmp 39, .r (.mov (.loc 1)), none⟩,
 ⟨.tmp 40, .r (.chk (.tmp 39)), none⟩,
 ⟨.tmp 41, .r (.off 4 (.tmp 40)), none⟩,
 ⟨.tmp 42, .r (.load false 1 (.tmp 41)), none⟩,
 ⟨.tmp 43, .r (.mov (.loc 6)), none⟩,
 ⟨.tmp 44, .r (.idx 3 (.tmp 42) (.tmp 43)), none⟩,
 ⟨.tmp 45, .r (.off 0 (.tmp 44)), none⟩,
 ⟨.tmp 46, .r (.load false 1 (.tmp 45)), none⟩,
 ⟨.tmp 47, .call f0 [.tmp 37, .tmp 38, .tmp 46], none⟩,
 ⟨.loc 48, .r (.not (.tmp 47)), none⟩])
 (.cond (.loc 48) (.seq (.reg [⟨.loc 4, .r (.mov (.cst (.bool false))), none⟩])
 .ret)
 .skip)))
 (.reg [⟨.tmp 35, .r (.mov (.loc 6)), none⟩,
 ⟨.tmp 36, .r (.bin .add (.tmp 35) (.cst (.int .i64 1))), none⟩,
 ⟨.loc 6, .r (.mov (.tmp 36)), none⟩])))
/-- glebe/glebelaw04.All -/
def c_glebelaw04_All (f0 : FuncId) : AFn := ⟨52, fun s => List.contains [0, 1, 4, 5, 6, 13, 27, 34, 48] s, (.seq (.reg [⟨.loc 4, .r (.mov (.cst (.bool false))), none⟩])
 (.seq (.seq (.reg [⟨.loc 5, .r (.mov (.cst (.int .i64 0))), none⟩])
 (.block 0 (.loop (c_glebelaw04_All_l0 f0))))
 (.seq (.seq (.reg [⟨.loc 6, .r (.mov (.cst (.int .i64 0))), none⟩])
 (.block 2 (.loop (c_glebelaw04_All_l1 f0))))
 (.seq (.reg [⟨.tmp 49, .r (.mov (.loc 0)), none⟩,
 ⟨.tmp 50, .r (.mov (.loc 1)), none⟩,
 ⟨.tmp 51, .call f0 [.tmp 49, .tmp 50, (.cst (.int .i64 0))], none⟩,
 ⟨.loc 4, .r (.mov (.tmp 51)), none⟩])
 .ret)))), [(.tmp (.loc 4))]⟩

end Glb
