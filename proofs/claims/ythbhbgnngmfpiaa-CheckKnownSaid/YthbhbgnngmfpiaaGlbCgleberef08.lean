/-
  What functions of the program are, one by one (the functions that they call as parameters), in a form of which something can be shown.
-/
import Derived.Test.YthbhbgnngmfpiaaGlbLibB
set_option linter.unusedSimpArgs false
set_option linter.unusedVariables false
namespace Glb
open Go
set_option maxRecDepth 100000

def c_gleberef08_Save_l0 (f0 f1 f2 f3 f4 : FuncId) : AC := (.seq (.seq (.reg [⟨.tmp 42, .r (.mov (.loc 13)), none⟩,
 ⟨.tmp 43, .r (.mov (.loc 11)), none⟩,
 ⟨.tmp 44, .r (.len (.tmp 43)), none⟩,
 ⟨.loc 45, .r (.bin .lss (.tmp 42) (.tmp 44)), none⟩])
 (.cond (.loc 45) .skip
 (.exit 0)))
 (.seq (.block 1 (.seq (.reg [⟨.tmp 48, .r (.mov (.loc 0)), none⟩,
 ⟨.tmp 49, .r (.mov (.loc 12)), none⟩,
 ⟨.tmp 50, .r (.mov (.loc 13)), none⟩,
 ⟨.tmp 51, .r (.bin .add (.tmp 49) (.tmp 50)), none⟩,
 ⟨.tmp 52, .r (.mov (.loc 3)), none⟩,
 ⟨.tmp 53, .r (.mov (.loc 13)), none⟩,
 ⟨.tmp 54, .r (.mov (.loc 13)), none⟩,
 ⟨.tmp 55, .r (.mov (.loc 11)), none⟩,
 ⟨.tmp 56, .r (.len (.tmp 55)), none⟩,
 ⟨.tmp 57, .r (.bin .sub (.tmp 56) (.cst (.int .i64 1))), none⟩,
 ⟨.tmp 58, .r (.bin .eql (.tmp 54) (.tmp 57)), none⟩,
 ⟨.tmp 59, .r (.mov (.loc 11)), none⟩,
 ⟨.tmp 60, .r (.mov (.loc 13)), none⟩,
 ⟨.tmp 61, .r (.idx 1 (.tmp 59) (.tmp 60)), none⟩,
 ⟨.tmp 62, .r (.load false 1 (.tmp 61)), none⟩,
 ⟨.tmp 63, .call f2 [.tmp 52, (.cst (.int .i64 0)), .tmp 53, .tmp 58, .tmp 62], none⟩,
 ⟨.tmp 64, .call f3 [.tmp 48, .tmp 51, .tmp 63], none⟩,
 ⟨.loc 14, .r (.mov (.tmp 64)), none⟩])
 (.seq (.reg [⟨.tmp 65, .r (.mov (.loc 14)), none⟩,
 ⟨.loc 66, .r (.bin .neq (.tmp 65) (.cst (.int .i64 0))), none⟩])
 (.cond (.loc 66) (.seq (.reg [⟨.tmp 67, .r (.mov (.loc 14)), none⟩,
 ⟨.loc 10, .r (.mov (.tmp 67)), none⟩])
 .ret)
 .skip))))
 (.reg [⟨.tmp 46, .r (.mov (.loc 13)), none⟩,
 ⟨.tmp 47, .r (.bin .add (.tmp 46) (.cst (.int .i64 1))), none⟩,
 ⟨.loc 13, .r (.mov (.tmp 47)), none⟩])))
/-- glebe/gleberef08.Save -/
def c_gleberef08_Save (f0 f1 f2 f3 f4 : FuncId) : AFn := ⟨92, fun s => List.contains [0, 1, 2, 3, 4, 10, 11, 12, 13, 14, 15, 28, 34, 38, 45, 66, 75, 88] s, (.seq (.reg [⟨.loc 10, .r (.mov (.cst (.int .i64 0))), none⟩])
 (.seq (.seq (.reg [⟨.tmp 16, .r (.mov (.loc 0)), none⟩,
 ⟨.tmp 17, .r (.mov (.loc 1)), none⟩,
 ⟨.tmp 18, .r (.mov (.loc 2)), none⟩,
 ⟨.tmp 19, .call f0 [.tmp 16, .tmp 17, .tmp 18], none⟩,
 ⟨.tmp 20, .r (.not (.tmp 19)), none⟩,
 ⟨.tmp 21, .r (.mov (.tmp 20)), none⟩,
 ⟨.tmp 22, .r (.mov (.loc 3)), some (.tmp 21, false)⟩,
 ⟨.tmp 23, .r (.bin .lss (.tmp 22) (.cst (.int .i64 1))), some (.tmp 21, false)⟩,
 ⟨.tmp 24, .r (.pick (.tmp 21) (.cst (.bool true)) (.tmp 23)), none⟩,
 ⟨.tmp 25, .r (.mov (.tmp 24)), none⟩,
 ⟨.tmp 26, .r (.mov (.loc 3)), some (.tmp 25, false)⟩,
 ⟨.tmp 27, .r (.bin .gtr (.tmp 26) (.cst (.int .i64 1099511627776))), some (.tmp 25, false)⟩,
 ⟨.loc 28, .r (.pick (.tmp 25) (.cst (.bool true)) (.tmp 27)), none⟩])
 (.cond (.loc 28) (.seq (.reg [⟨.loc 10, .r (.mov (.cst (.int .i64 3))), none⟩])
 .ret)
 .skip))
 (.seq (.reg [⟨.tmp 29, .r (.mov (.loc 4)), none⟩,
 ⟨.tmp 30, .call f1 [.tmp 29], none⟩,
 ⟨.loc 11, .r (.mov (.tmp 30)), none⟩])
 (.seq (.seq (.reg [⟨.tmp 31, .r (.mov (.loc 11)), none⟩,
 ⟨.tmp 32, .r (.len (.tmp 31)), none⟩,
 ⟨.tmp 33, .r (.mov (.loc 2)), none⟩,
 ⟨.loc 34, .r (.bin .gtr (.tmp 32) (.tmp 33)), none⟩])
 (.cond (.loc 34) (.seq (.reg [⟨.loc 10, .r (.mov (.cst (.int .i64 2))), none⟩])
 .ret)
 .skip))
 (.seq (.reg [⟨.tmp 35, .r (.mov (.loc 1)), none⟩,
 ⟨.loc 12, .r (.mov (.tmp 35)), none⟩])
 (.seq (.seq (.reg [⟨.tmp 36, .r (.mov (.loc 3)), none⟩,
 ⟨.tmp 37, .r (.bin .rem (.tmp 36) (.cst (.int .i64 2))), none⟩,
 ⟨.loc 38, .r (.bin .eql (.tmp 37) (.cst (.int .i64 1))), none⟩])
 (.cond (.loc 38) (.reg [⟨.tmp 39, .r (.mov (.loc 1)), none⟩,
 ⟨.tmp 40, .r (.mov (.loc 2)), none⟩,
 ⟨.tmp 41, .r (.bin .add (.tmp 39) (.tmp 40)), none⟩,
 ⟨.loc 12, .r (.mov (.tmp 41)), none⟩])
 .skip))
 (.seq (.seq (.reg [⟨.loc 13, .r (.mov (.cst (.int .i64 1))), none⟩])
 (.block 0 (.loop (c_gleberef08_Save_l0 f0 f1 f2 f3 f4))))
 (.seq (.seq (.reg [⟨.tmp 68, .r (.mov (.loc 11)), none⟩,
 ⟨.tmp 69, .r (.len (.tmp 68)), none⟩,
 ⟨.tmp 70, .r (.bin .gtr (.tmp 69) (.cst (.int .i64 1))), none⟩,
 ⟨.tmp 71, .r (.mov (.tmp 70)), none⟩,
 ⟨.tmp 72, .r (.mov (.loc 0)), some (.tmp 71, true)⟩,
 ⟨.tmp 73, .call f4 [.tmp 72], some (.tmp 71, true)⟩,
 ⟨.tmp 74, .r (.bin .neq (.tmp 73) (.cst (.int .i64 0))), some (.tmp 71, true)⟩,
 ⟨.loc 75, .r (.pick (.tmp 71) (.tmp 74) (.cst (.bool false))), none⟩])
 (.cond (.loc 75) (.seq (.reg [⟨.loc 10, .r (.mov (.cst (.int .i64 10))), none⟩])
 .ret)
 .skip))
 (.seq (.reg [⟨.tmp 76, .r (.mov (.loc 0)), none⟩,
 ⟨.tmp 77, .r (.mov (.loc 12)), none⟩,
 ⟨.tmp 78, .r (.mov (.loc 3)), none⟩,
 ⟨.tmp 79, .r (.mov (.loc 11)), none⟩,
 ⟨.tmp 80, .r (.len (.tmp 79)), none⟩,
 ⟨.tmp 81, .r (.bin .eql (.tmp 80) (.cst (.int .i64 1))), none⟩,
 ⟨.tmp 82, .r (.mov (.loc 11)), none⟩,
 ⟨.tmp 83, .r (.idx 1 (.tmp 82) (.cst (.int .i64 0))), none⟩,
 ⟨.tmp 84, .r (.load false 1 (.tmp 83)), none⟩,
 ⟨.tmp 85, .call f2 [.tmp 78, (.cst (.int .i64 0)), (.cst (.int .i64 0)), .tmp 81, .tmp 84], none⟩,
 ⟨.tmp 86, .call f3 [.tmp 76, .tmp 77, .tmp 85], none⟩,
 ⟨.loc 15, .r (.mov (.tmp 86)), none⟩])
 (.seq (.seq (.reg [⟨.tmp 87, .r (.mov (.loc 15)), none⟩,
 ⟨.loc 88, .r (.bin .neq (.tmp 87) (.cst (.int .i64 0))), none⟩])
 (.cond (.loc 88) (.seq (.reg [⟨.tmp 89, .r (.mov (.loc 15)), none⟩,
 ⟨.loc 10, .r (.mov (.tmp 89)), none⟩])
 .ret)
 .skip))
 (.seq (.reg [⟨.tmp 90, .r (.mov (.loc 0)), none⟩,
 ⟨.tmp 91, .call f4 [.tmp 90], none⟩,
 ⟨.loc 10, .r (.mov (.tmp 91)), none⟩])
 .ret))))))))))), [(.tmp (.loc 10))]⟩

/-- glebe/gleberef08.Load -/
def c_gleberef08_Load (f0 f1 : FuncId) : AFn := ⟨47, fun s => List.contains [0, 1, 2, 6, 7, 8, 9, 10, 11, 12, 17, 39, 42] s, (.seq (.reg [⟨.loc 6, .r (.mov (.cst .nils)), none⟩,
 ⟨.loc 7, .r (.mov (.cst (.int .i64 0))), none⟩,
 ⟨.loc 8, .r (.mov (.cst (.int .i64 0))), none⟩])
 (.seq (.seq (.reg [⟨.tmp 13, .r (.mov (.loc 0)), none⟩,
 ⟨.tmp 14, .r (.mov (.loc 1)), none⟩,
 ⟨.tmp 15, .r (.mov (.loc 2)), none⟩,
 ⟨.tmp 16, .call f0 [.tmp 13, .tmp 14, .tmp 15], none⟩,
 ⟨.loc 17, .r (.not (.tmp 16)), none⟩])
 (.cond (.loc 17) (.seq (.reg [⟨.loc 6, .r (.mov (.cst .nils)), none⟩,
 ⟨.loc 7, .r (.mov (.cst (.int .i64 0))), none⟩,
 ⟨.loc 8, .r (.mov (.cst (.int .i64 3))), none⟩])
 .ret)
 .skip))
 (.seq (.reg [⟨.tmp 19, .r (.mov (.loc 0)), none⟩,
 ⟨.tmp 20, .r (.mov (.loc 1)), none⟩,
 ⟨.tmp 21, .r (.mov (.loc 2)), none⟩,
 ⟨.tmp 22, .call f1 [.tmp 19, .tmp 20, .tmp 21, (.cst (.int .i64 0))], none⟩,
 ⟨.tmp 18, .r (.mov (.tmp 22)), none⟩,
 ⟨.tmp 23, .r (.ext (.tmp 18) 0), none⟩,
 ⟨.tmp 24, .r (.ext (.tmp 18) 1), none⟩,
 ⟨.loc 9, .r (.mov (.tmp 23)), none⟩,
 ⟨.loc 10, .r (.mov (.tmp 24)), none⟩])
 (.seq (.reg [⟨.tmp 26, .r (.mov (.loc 0)), none⟩,
 ⟨.tmp 27, .r (.mov (.loc 1)), none⟩,
 ⟨.tmp 28, .r (.mov (.loc 2)), none⟩,
 ⟨.tmp 29, .r (.bin .add (.tmp 27) (.tmp 28)), none⟩,
 ⟨.tmp 30, .r (.mov (.loc 2)), none⟩,
 ⟨.tmp 31, .call f1 [.tmp 26, .tmp 29, .tmp 30, (.cst (.int .i64 1))], none⟩,
 ⟨.tmp 25, .r (.mov (.tmp 31)), none⟩,
 ⟨.tmp 32, .r (.ext (.tmp 25) 0), none⟩,
 ⟨.tmp 33, .r (.ext (.tmp 25) 1), none⟩,
 ⟨.loc 11, .r (.mov (.tmp 32)), none⟩,
 ⟨.loc 12, .r (.mov (.tmp 33)), none⟩])
 (.seq (.seq (.reg [⟨.tmp 34, .r (.mov (.loc 10)), none⟩,
 ⟨.tmp 35, .r (.bin .eql (.tmp 34) (.cst (.int .i64 0))), none⟩,
 ⟨.tmp 36, .r (.mov (.tmp 35)), none⟩,
 ⟨.tmp 37, .r (.mov (.loc 12)), some (.tmp 36, true)⟩,
 ⟨.tmp 38, .r (.bin .eql (.tmp 37) (.cst (.int .i64 0))), some (.tmp 36, true)⟩,
 ⟨.loc 39, .r (.pick (.tmp 36) (.tmp 38) (.cst (.bool false))), none⟩])
 (.cond (.loc 39) (.seq (.reg [⟨.loc 6, .r (.mov (.cst .nils)), none⟩,
 ⟨.loc 7, .r (.mov (.cst (.int .i64 0))), none⟩,
 ⟨.loc 8, .r (.mov (.cst (.int .i64 6))), none⟩])
 .ret)
 .skip))
 (.seq (.seq (.reg [⟨.tmp 40, .r (.mov (.loc 10)), none⟩,
 ⟨.tmp 41, .r (.mov (.loc 12)), none⟩,
 ⟨.loc 42, .r (.bin .gtr (.tmp 40) (.tmp 41)), none⟩])
 (.cond (.loc 42) (.seq (.reg [⟨.tmp 43, .r (.mov (.loc 9)), none⟩,
 ⟨.tmp 44, .r (.mov (.loc 10)), none⟩,
 ⟨.loc 6, .r (.mov (.tmp 43)), none⟩,
 ⟨.loc 7, .r (.mov (.tmp 44)), none⟩,
 ⟨.loc 8, .r (.mov (.cst (.int .i64 0))), none⟩])
 .ret)
 .skip))
 (.seq (.reg [⟨.tmp 45, .r (.mov (.loc 11)), none⟩,
 ⟨.tmp 46, .r (.mov (.loc 12)), none⟩,
 ⟨.loc 6, .r (.mov (.tmp 45)), none⟩,
 ⟨.loc 7, .r (.mov (.tmp 46)), none⟩,
 ⟨.loc 8, .r (.mov (.cst (.int .i64 0))), none⟩])
 .ret))))))), [(.tmp (.loc 6)), (.tmp (.loc 7)), (.tmp (.loc 8))]⟩

/-- glebe/gleberef08.May -/
def c_gleberef08_May : AFn := ⟨40, fun s => List.contains [0, 1, 2, 6] s, (.seq (.reg [⟨.loc 6, .r (.mov (.cst (.bool false))), none⟩])
 (.seq (.reg [⟨.tmp 7, .r (.mov (.loc 1)), none⟩,
 ⟨.tmp 8, .r (.bin .geq (.tmp 7) (.cst (.int .i64 0))), none⟩,
 ⟨.tmp 9, .r (.mov (.tmp 8)), none⟩,
 ⟨.tmp 10, .r (.mov (.loc 1)), some (.tmp 9, true)⟩,
 ⟨.tmp 11, .r (.mov (.loc 0)), some (.tmp 9, true)⟩,
 ⟨.tmp 12, .r (.chk (.tmp 11)), some (.tmp 9, true)⟩,
 ⟨.tmp 13, .r (.off 0 (.tmp 12)), some (.tmp 9, true)⟩,
 ⟨.tmp 14, .r (.load false 1 (.tmp 13)), some (.tmp 9, true)⟩,
 ⟨.tmp 15, .r (.bin .lss (.tmp 10) (.tmp 14)), some (.tmp 9, true)⟩,
 ⟨.tmp 16, .r (.pick (.tmp 9) (.tmp 15) (.cst (.bool false))), none⟩,
 ⟨.tmp 17, .r (.mov (.tmp 16)), none⟩,
 ⟨.tmp 18, .r (.mov (.loc 2)), some (.tmp 17, true)⟩,
 ⟨.tmp 19, .r (.bin .geq (.tmp 18) (.cst (.int .i64 1))), some (.tmp 17, true)⟩,
 ⟨.tmp 20, .r (.pick (.tmp 17) (.tmp 19) (.cst (.bool false))), none⟩,
 ⟨.tmp 21, .r (.mov (.tmp 20)), none⟩,
 ⟨.tmp 22, .r (.mov (.loc 2)), some (.tmp 21, true)⟩,
 ⟨.tmp 23, .r (.mov (.loc 0)), some (.tmp 21, true)⟩,
 ⟨.tmp 24, .r (.chk (.tmp 23)), some (.tmp 21, true)⟩,
 ⟨.tmp 25, .r (.off 0 (.tmp 24)), some (.tmp 21, true)⟩,
 ⟨.tmp 26, .r (.load false 1 (.tmp 25)), some (.tmp 21, true)⟩,
 ⟨.tmp 27, .r (.bin .leq (.tmp 22) (.tmp 26)), some (.tmp 21, true)⟩,
 ⟨.tmp 28, .r (.pick (.tmp 21) (.tmp 27) (.cst (.bool false))), none⟩,
 ⟨.tmp 29, .r (.mov (.tmp 28)), none⟩,
 ⟨.tmp 30, .r (.mov (.loc 1)), some (.tmp 29, true)⟩,
 ⟨.tmp 31, .r (.mov (.loc 2)), some (.tmp 29, true)⟩,
 ⟨.tmp 32, .r (.bin .mul (.cst (.int .i64 2)) (.tmp 31)), some (.tmp 29, true)⟩,
 ⟨.tmp 33, .r (.bin .add (.tmp 30) (.tmp 32)), some (.tmp 29, true)⟩,
 ⟨.tmp 34, .r (.mov (.loc 0)), some (.tmp 29, true)⟩,
 ⟨.tmp 35, .r (.chk (.tmp 34)), some (.tmp 29, true)⟩,
 ⟨.tmp 36, .r (.off 0 (.tmp 35)), some (.tmp 29, true)⟩,
 ⟨.tmp 37, .r (.load false 1 (.tmp 36)), some (.tmp 29, true)⟩,
 ⟨.tmp 38, .r (.bin .leq (.tmp 33) (.tmp 37)), some (.tmp 29, true)⟩,
 ⟨.tmp 39, .r (.pick (.tmp 29) (.tmp 38) (.cst (.bool false))), none⟩,
 ⟨.loc 6, .r (.mov (.tmp 39)), none⟩])
 .ret)), [(.tmp (.loc 6))]⟩

def c_gleberef08_Cut_l0 : AC := (.seq (.seq (.reg [⟨.tmp 4, .r (.mov (.loc 0)), none⟩,
 ⟨.tmp 5, .r (.len (.tmp 4)), none⟩,
 ⟨.loc 6, .r (.bin .gtr (.tmp 5) (.cst (.int .i64 40))), none⟩])
 (.cond (.loc 6) .skip
 (.exit 0)))
 (.block 1 (.seq (.reg [⟨.tmp 7, .r (.mov (.loc 3)), none⟩,
 ⟨.tmp 8, .r (.mov (.loc 0)), none⟩,
 ⟨.tmp 9, .r (.slc 1 (.tmp 8) none (some (.cst (.int .i64 40))) none), none⟩,
 ⟨.tmp 10, .h (.bsl 1 [.tmp 9]), none⟩,
 ⟨.tmp 11, .h (.app 1 24 (.tmp 7) (.tmp 10)), none⟩,
 ⟨.loc 3, .r (.mov (.tmp 11)), none⟩])
 (.reg [⟨.tmp 12, .r (.mov (.loc 0)), none⟩,
 ⟨.tmp 13, .r (.slc 1 (.tmp 12) (some (.cst (.int .i64 40))) none none), none⟩,
 ⟨.loc 0, .r (.mov (.tmp 13)), none⟩]))))
/-- glebe/gleberef08.Cut -/
def c_gleberef08_Cut : AFn := ⟨18, fun s => List.contains [0, 2, 3, 6] s, (.seq (.reg [⟨.loc 2, .r (.mov (.cst .nils)), none⟩])
 (.seq (.reg [⟨.loc 3, .r (.mov (.cst .nils)), none⟩])
 (.seq (.block 0 (.loop (c_gleberef08_Cut_l0)))
 (.seq (.reg [⟨.tmp 14, .r (.mov (.loc 3)), none⟩,
 ⟨.tmp 15, .r (.mov (.loc 0)), none⟩,
 ⟨.tmp 16, .h (.bsl 1 [.tmp 15]), none⟩,
 ⟨.tmp 17, .h (.app 1 24 (.tmp 14) (.tmp 16)), none⟩,
 ⟨.loc 2, .r (.mov (.tmp 17)), none⟩])
 .ret)))), [(.tmp (.loc 2))]⟩

/-- glebe/gleberef08.Piece -/
def c_gleberef08_Piece (f0 : FuncId) : AFn := ⟨29, fun s => List.contains [0, 1, 2, 3, 4, 10, 11, 12, 15] s, (.seq (.reg [⟨.loc 10, .r (.mov (.cst .nils)), none⟩])
 (.seq (.reg [⟨.tmp 13, .r (.mov (.loc 2)), none⟩,
 ⟨.tmp 14, .r (.bin .mul (.cst (.int .i64 2)) (.tmp 13)), none⟩,
 ⟨.loc 11, .r (.mov (.tmp 14)), none⟩])
 (.seq (.seq (.reg [⟨.loc 15, .r (.mov (.loc 3)), none⟩])
 (.cond (.loc 15) (.reg [⟨.tmp 16, .r (.mov (.loc 11)), none⟩,
 ⟨.tmp 17, .r (.bin .add (.tmp 16) (.cst (.int .i64 1))), none⟩,
 ⟨.loc 11, .r (.mov (.tmp 17)), none⟩])
 .skip))
 (.seq (.reg [⟨.tmp 18, .r (.mov (.loc 0)), none⟩,
 ⟨.tmp 19, .call f0 [(.cst .nils), .tmp 18], none⟩,
 ⟨.loc 12, .r (.mov (.tmp 19)), none⟩])
 (.seq (.reg [⟨.tmp 20, .r (.mov (.loc 12)), none⟩,
 ⟨.tmp 21, .r (.mov (.loc 1)), none⟩,
 ⟨.tmp 22, .call f0 [.tmp 20, .tmp 21], none⟩,
 ⟨.loc 12, .r (.mov (.tmp 22)), none⟩])
 (.seq (.reg [⟨.tmp 23, .r (.mov (.loc 12)), none⟩,
 ⟨.tmp 24, .r (.mov (.loc 11)), none⟩,
 ⟨.tmp 25, .call f0 [.tmp 23, .tmp 24], none⟩,
 ⟨.loc 12, .r (.mov (.tmp 25)), none⟩])
 (.seq (.reg [⟨.tmp 26, .r (.mov (.loc 12)), none⟩,
 ⟨.tmp 27, .r (.mov (.loc 4)), none⟩,
 ⟨.tmp 28, .h (.app 1 1 (.tmp 26) (.tmp 27)), none⟩,
 ⟨.loc 10, .r (.mov (.tmp 28)), none⟩])
 .ret))))))), [(.tmp (.loc 10))]⟩

def c_gleberef08_Whole_l0 (f0 f1 f2 f3 : FuncId) : AC := (.seq (.seq (.reg [⟨.tmp 43, .r (.mov (.loc 14)), none⟩,
 ⟨.tmp 44, .r (.mov (.loc 2)), none⟩,
 ⟨.loc 45, .r (.bin .lss (.tmp 43) (.tmp 44)), none⟩])
 (.cond (.loc 45) .skip
 (.exit 0)))
 (.seq (.block 1 (.seq (.reg [⟨.tmp 49, .r (.mov (.loc 0)), none⟩,
 ⟨.tmp 50, .r (.mov (.loc 1)), none⟩,
 ⟨.tmp 51, .r (.mov (.loc 14)), none⟩,
 ⟨.tmp 52, .r (.bin .add (.tmp 50) (.tmp 51)), none⟩,
 ⟨.tmp 53, .call f0 [.tmp 49, .tmp 52], none⟩,
 ⟨.tmp 48, .r (.mov (.tmp 53)), none⟩,
 ⟨.tmp 54, .r (.ext (.tmp 48) 0), none⟩,
 ⟨.tmp 55, .r (.ext (.tmp 48) 1), none⟩,
 ⟨.loc 15, .r (.mov (.tmp 54)), none⟩,
 ⟨.loc 16, .r (.mov (.tmp 55)), none⟩])
 (.seq (.reg [⟨.tmp 57, .r (.mov (.loc 15)), none⟩,
 ⟨.tmp 58, .r (.mov (.loc 12)), none⟩,
 ⟨.tmp 59, .r (.mov (.loc 14)), none⟩,
 ⟨.tmp 60, .call f3 [.tmp 57, .tmp 58, (.cst (.int .i64 0)), .tmp 59], none⟩,
 ⟨.tmp 56, .r (.mov (.tmp 60)), none⟩,
 ⟨.tmp 61, .r (.ext (.tmp 56) 0), none⟩,
 ⟨.tmp 62, .r (.ext (.tmp 56) 1), none⟩,
 ⟨.tmp 63, .r (.ext (.tmp 56) 2), none⟩,
 ⟨.loc 17, .r (.mov (.tmp 61)), none⟩,
 ⟨.loc 18, .r (.mov (.tmp 62)), none⟩,
 ⟨.loc 19, .r (.mov (.tmp 63)), none⟩])
 (.seq (.seq (.reg [⟨.tmp 64, .r (.mov (.loc 16)), none⟩,
 ⟨.tmp 65, .r (.bin .neq (.tmp 64) (.cst (.int .i64 0))), none⟩,
 ⟨.tmp 66, .r (.mov (.tmp 65)), none⟩,
 ⟨.tmp 67, .r (.mov (.loc 19)), some (.tmp 66, false)⟩,
 ⟨.tmp 68, .r (.not (.tmp 67)), some (.tmp 66, false)⟩,
 ⟨.loc 69, .r (.pick (.tmp 66) (.cst (.bool true)) (.tmp 68)), none⟩])
 (.cond (.loc 69) (.seq (.reg [⟨.loc 8, .r (.mov (.cst .nils)), none⟩,
 ⟨.loc 9, .r (.mov (.cst (.int .i64 0))), none⟩])
 .ret)
 .skip))
 (.seq (.reg [⟨.tmp 70, .r (.mov (.loc 13)), none⟩,
 ⟨.tmp 71, .r (.mov (.loc 17)), none⟩,
 ⟨.tmp 72, .h (.app 1 1 (.tmp 70) (.tmp 71)), none⟩,
 ⟨.loc 13, .r (.mov (.tmp 72)), none⟩])
 (.seq (.reg [⟨.loc 73, .r (.mov (.loc 18)), none⟩])
 (.cond (.loc 73) (.seq (.reg [⟨.tmp 74, .r (.mov (.loc 13)), none⟩,
 ⟨.tmp 75, .r (.mov (.loc 12)), none⟩,
 ⟨.loc 8, .r (.mov (.tmp 74)), none⟩,
 ⟨.loc 9, .r (.mov (.tmp 75)), none⟩])
 .ret)
 .skip)))))))
 (.reg [⟨.tmp 46, .r (.mov (.loc 14)), none⟩,
 ⟨.tmp 47, .r (.bin .add (.tmp 46) (.cst (.int .i64 1))), none⟩,
 ⟨.loc 14, .r (.mov (.tmp 47)), none⟩])))
/-- glebe/gleberef08.Whole -/
def c_gleberef08_Whole (f0 f1 f2 f3 : FuncId) : AFn := ⟨76, fun s => List.contains [0, 1, 2, 3, 8, 9, 10, 11, 12, 13, 14, 15, 16, 17, 18, 19, 27, 42, 45, 69, 73] s, (.seq (.reg [⟨.loc 8, .r (.mov (.cst .nils)), none⟩,
 ⟨.loc 9, .r (.mov (.cst (.int .i64 0))), none⟩])
 (.seq (.reg [⟨.tmp 21, .r (.mov (.loc 0)), none⟩,
 ⟨.tmp 22, .r (.mov (.loc 1)), none⟩,
 ⟨.tmp 23, .call f0 [.tmp 21, .tmp 22], none⟩,
 ⟨.tmp 20, .r (.mov (.tmp 23)), none⟩,
 ⟨.tmp 24, .r (.ext (.tmp 20) 0), none⟩,
 ⟨.tmp 25, .r (.ext (.tmp 20) 1), none⟩,
 ⟨.loc 10, .r (.mov (.tmp 24)), none⟩,
 ⟨.loc 11, .r (.mov (.tmp 25)), none⟩])
 (.seq (.seq (.reg [⟨.tmp 26, .r (.mov (.loc 11)), none⟩,
 ⟨.loc 27, .r (.bin .neq (.tmp 26) (.cst (.int .i64 0))), none⟩])
 (.cond (.loc 27) (.seq (.reg [⟨.loc 8, .r (.mov (.cst .nils)), none⟩,
 ⟨.loc 9, .r (.mov (.cst (.int .i64 0))), none⟩])
 .ret)
 .skip))
 (.seq (.reg [⟨.tmp 28, .r (.mov (.loc 10)), none⟩,
 ⟨.tmp 29, .call f1 [.tmp 28], none⟩,
 ⟨.tmp 30, .call f2 [.tmp 29], none⟩,
 ⟨.loc 12, .r (.mov (.tmp 30)), none⟩])
 (.seq (.seq (.reg [⟨.tmp 31, .r (.mov (.loc 12)), none⟩,
 ⟨.tmp 32, .r (.bin .lss (.tmp 31) (.cst (.int .i64 1))), none⟩,
 ⟨.tmp 33, .r (.mov (.tmp 32)), none⟩,
 ⟨.tmp 34, .r (.mov (.loc 12)), some (.tmp 33, false)⟩,
 ⟨.tmp 35, .r (.bin .gtr (.tmp 34) (.cst (.int .i64 1099511627776))), some (.tmp 33, false)⟩,
 ⟨.tmp 36, .r (.pick (.tmp 33) (.cst (.bool true)) (.tmp 35)), none⟩,
 ⟨.tmp 37, .r (.mov (.tmp 36)), none⟩,
 ⟨.tmp 38, .r (.mov (.loc 12)), some (.tmp 37, false)⟩,
 ⟨.tmp 39, .r (.bin .rem (.tmp 38) (.cst (.int .i64 2))), some (.tmp 37, false)⟩,
 ⟨.tmp 40, .r (.mov (.loc 3)), some (.tmp 37, false)⟩,
 ⟨.tmp 41, .r (.bin .neq (.tmp 39) (.tmp 40)), some (.tmp 37, false)⟩,
 ⟨.loc 42, .r (.pick (.tmp 37) (.cst (.bool true)) (.tmp 41)), none⟩])
 (.cond (.loc 42) (.seq (.reg [⟨.loc 8, .r (.mov (.cst .nils)), none⟩,
 ⟨.loc 9, .r (.mov (.cst (.int .i64 0))), none⟩])
 .ret)
 .skip))
 (.seq (.reg [⟨.loc 13, .r (.mov (.cst .nils)), none⟩])
 (.seq (.seq (.reg [⟨.loc 14, .r (.mov (.cst (.int .i64 0))), none⟩])
 (.block 0 (.loop (c_gleberef08_Whole_l0 f0 f1 f2 f3))))
 (.seq (.reg [⟨.loc 8, .r (.mov (.cst .nils)), none⟩,
 ⟨.loc 9, .r (.mov (.cst (.int .i64 0))), none⟩])
 .ret)))))))), [(.tmp (.loc 8)), (.tmp (.loc 9))]⟩

def c_gleberef08_Is_l0 (f0 : FuncId) : AC := (.seq (.seq (.reg [⟨.tmp 40, .r (.mov (.loc 14)), none⟩,
 ⟨.loc 41, .r (.bin .lss (.tmp 40) (.cst (.int .i64 24))), none⟩])
 (.cond (.loc 41) .skip
 (.exit 2)))
 (.seq (.block 3 (.dreg ⟨[0, 1, 3, 3, 15, 31, 3, 3, 195, 451, 1023, 2047, 4095], 0, [⟨0, 0, false, .r (.mov (.loc 13)), none⟩,
 ⟨1, 0, false, .r (.mov (.tmp 0)), none⟩,
 ⟨2, 0, false, .r (.mov (.loc 0)), some (.tmp 1, true)⟩,
 ⟨3, 0, false, .r (.mov (.loc 14)), some (.tmp 1, true)⟩,
 ⟨4, 0, false, .r (.idx 1 (.tmp 2) (.tmp 3)), some (.tmp 1, true)⟩,
 ⟨5, 0, false, .r (.load false 1 (.tmp 4)), some (.tmp 1, true)⟩,
 ⟨6, 0, false, .r (.mov (.loc 12)), some (.tmp 1, true)⟩,
 ⟨7, 0, false, .r (.mov (.loc 14)), some (.tmp 1, true)⟩,
 ⟨8, 0, false, .r (.idx 1 (.tmp 6) (.tmp 7)), some (.tmp 1, true)⟩,
 ⟨9, 0, false, .r (.load false 1 (.tmp 8)), some (.tmp 1, true)⟩,
 ⟨10, 0, false, .r (.bin .eql (.tmp 5) (.tmp 9)), some (.tmp 1, true)⟩,
 ⟨11, 0, false, .r (.pick (.tmp 1) (.tmp 10) (.cst (.bool false))), none⟩,
 ⟨12, 0, false, .r (.mov (.tmp 11)), none⟩], [(13, 12)]⟩))
 (.reg [⟨.tmp 42, .r (.mov (.loc 14)), none⟩,
 ⟨.tmp 43, .r (.bin .add (.tmp 42) (.cst (.int .i64 1))), none⟩,
 ⟨.loc 14, .r (.mov (.tmp 43)), none⟩])))
def c_gleberef08_Is_l1 (f0 : FuncId) : AC := (.seq (.seq (.reg [⟨.tmp 23, .r (.mov (.loc 11)), none⟩,
 ⟨.loc 24, .r (.bin .lss (.tmp 23) (.cst (.int .i64 2))), none⟩])
 (.cond (.loc 24) .skip
 (.exit 0)))
 (.seq (.block 1 (.seq (.reg [⟨.tmp 27, .r (.mov (.loc 1)), none⟩,
 ⟨.tmp 28, .r (.mov (.loc 2)), none⟩,
 ⟨.tmp 29, .r (.mov (.loc 3)), none⟩,
 ⟨.tmp 30, .r (.mov (.loc 11)), none⟩,
 ⟨.tmp 31, .r (.bin .eql (.tmp 30) (.cst (.int .i64 1))), none⟩,
 ⟨.tmp 32, .call f0 [.tmp 27, .tmp 28, .tmp 29, .tmp 31, (.cst .nils)], none⟩,
 ⟨.loc 12, .r (.mov (.tmp 32)), none⟩])
 (.seq (.reg [⟨.tmp 33, .r (.mov (.loc 11)), none⟩,
 ⟨.tmp 34, .r (.bin .eql (.tmp 33) (.cst (.int .i64 1))), none⟩,
 ⟨.tmp 35, .r (.mov (.tmp 34)), none⟩,
 ⟨.tmp 36, .r (.mov (.loc 0)), some (.tmp 35, false)⟩,
 ⟨.tmp 37, .r (.len (.tmp 36)), some (.tmp 35, false)⟩,
 ⟨.tmp 38, .r (.bin .eql (.tmp 37) (.cst (.int .i64 64))), some (.tmp 35, false)⟩,
 ⟨.tmp 39, .r (.pick (.tmp 35) (.cst (.bool true)) (.tmp 38)), none⟩,
 ⟨.loc 13, .r (.mov (.tmp 39)), none⟩])
 (.seq (.seq (.reg [⟨.loc 14, .r (.mov (.cst (.int .i64 0))), none⟩])
 (.block 2 (.loop (c_gleberef08_Is_l0 f0))))
 (.seq (.reg [⟨.loc 56, .r (.mov (.loc 13)), none⟩])
 (.cond (.loc 56) (.seq (.reg [⟨.tmp 57, .r (.mov (.loc 0)), none⟩,
 ⟨.tmp 58, .r (.slc 1 (.tmp 57) (some (.cst (.int .i64 24))) none none), none⟩,
 ⟨.tmp 59, .r (.mov (.loc 11)), none⟩,
 ⟨.tmp 60, .r (.bin .eql (.tmp 59) (.cst (.int .i64 1))), none⟩,
 ⟨.loc 8, .r (.mov (.tmp 58)), none⟩,
 ⟨.loc 9, .r (.mov (.tmp 60)), none⟩,
 ⟨.loc 10, .r (.mov (.cst (.bool true))), none⟩])
 .ret)
 .skip))))))
 (.reg [⟨.tmp 25, .r (.mov (.loc 11)), none⟩,
 ⟨.tmp 26, .r (.bin .add (.tmp 25) (.cst (.int .i64 1))), none⟩,
 ⟨.loc 11, .r (.mov (.tmp 26)), none⟩])))
/-- glebe/gleberef08.Is -/
def c_gleberef08_Is (f0 : FuncId) : AFn := ⟨61, fun s => List.contains [0, 1, 2, 3, 8, 9, 10, 11, 12, 13, 14, 22, 24, 41, 56] s, (.seq (.reg [⟨.loc 8, .r (.mov (.cst .nils)), none⟩,
 ⟨.loc 9, .r (.mov (.cst (.bool false))), none⟩,
 ⟨.loc 10, .r (.mov (.cst (.bool false))), none⟩])
 (.seq (.seq (.reg [⟨.tmp 15, .r (.mov (.loc 0)), none⟩,
 ⟨.tmp 16, .r (.len (.tmp 15)), none⟩,
 ⟨.tmp 17, .r (.bin .lss (.tmp 16) (.cst (.int .i64 24))), none⟩,
 ⟨.tmp 18, .r (.mov (.tmp 17)), none⟩,
 ⟨.tmp 19, .r (.mov (.loc 0)), some (.tmp 18, false)⟩,
 ⟨.tmp 20, .r (.len (.tmp 19)), some (.tmp 18, false)⟩,
 ⟨.tmp 21, .r (.bin .gtr (.tmp 20) (.cst (.int .i64 64))), some (.tmp 18, false)⟩,
 ⟨.loc 22, .r (.pick (.tmp 18) (.cst (.bool true)) (.tmp 21)), none⟩])
 (.cond (.loc 22) (.seq (.reg [⟨.loc 8, .r (.mov (.cst .nils)), none⟩,
 ⟨.loc 9, .r (.mov (.cst (.bool false))), none⟩,
 ⟨.loc 10, .r (.mov (.cst (.bool false))), none⟩])
 .ret)
 .skip))
 (.seq (.seq (.reg [⟨.loc 11, .r (.mov (.cst (.int .i64 0))), none⟩])
 (.block 0 (.loop (c_gleberef08_Is_l1 f0))))
 (.seq (.reg [⟨.loc 8, .r (.mov (.cst .nils)), none⟩,
 ⟨.loc 9, .r (.mov (.cst (.bool false))), none⟩,
 ⟨.loc 10, .r (.mov (.cst (.bool false))), none⟩])
 .ret)))), [(.tmp (.loc 8)), (.tmp (.loc 9)), (.tmp (.loc 10))]⟩

end Glb
