/-
  What functions of the program are, one by one (the functions that they call as parameters), in a form of which something can be shown.
-/
import Derived.Test.YtgjgniadldlmiaaGlbLibB
set_option linter.unusedSimpArgs false
set_option linter.unusedVariables false
namespace Glb
open Go
set_option maxRecDepth 100000

def c_check_Save_l0 (f0 f1 f2 f3 : FuncId) : AC := (.seq (.reg [⟨.loc 46, .r (.bin .lss (.loc 45) (.loc 44)), none⟩])
 (.seq (.cond (.loc 46) .skip
 (.exit 0))
 (.seq (.block 1 (.seq (.reg [⟨.tmp 47, .r (.mov (.loc 45)), none⟩,
 ⟨.loc 14, .r (.mov (.tmp 47)), none⟩])
 (.seq (.reg [⟨.tmp 48, .r (.mov (.loc 13)), none⟩,
 ⟨.tmp 49, .r (.mov (.loc 14)), none⟩,
 ⟨.tmp 50, .r (.bin .add (.tmp 49) (.cst (.int .i64 1))), none⟩,
 ⟨(.tmp 51), (.callv (.tmp 48) [.tmp 50]), none⟩,
 ⟨.loc 15, .r (.mov (.tmp 51)), none⟩])
 (.seq (.reg [⟨.tmp 52, .r (.mov (.loc 15)), none⟩,
 ⟨.loc 53, .r (.bin .neq (.tmp 52) (.cst (.int .i64 0))), none⟩])
 (.cond (.loc 53) (.seq (.reg [⟨.tmp 54, .r (.mov (.loc 15)), none⟩,
 ⟨.loc 10, .r (.mov (.tmp 54)), none⟩])
 .ret)
 .skip)))))
 (.reg [⟨.tmp 55, .r (.bin .add (.loc 45) (.cst (.int .i64 1))), none⟩,
 ⟨.loc 45, .r (.mov (.tmp 55)), none⟩]))))
/-- glebe/check.Save -/
def c_check_Save (f0 f1 f2 f3 : FuncId) : AFn := ⟨70, fun s => List.contains [0, 1, 2, 3, 4, 5, 8, 9, 10, 11, 12, 13, 14, 15, 16, 17, 30, 35, 44, 45, 46, 53, 57, 61, 66] s, (.seq (.reg [⟨.loc 5, .h (.box (.loc 0)), none⟩,
 ⟨.loc 8, .h (.box (.loc 3)), none⟩,
 ⟨.loc 9, .h (.box (.loc 4)), none⟩,
 ⟨.loc 10, .r (.mov (.cst (.int .i64 0))), none⟩])
 (.seq (.seq (.reg [⟨.tmp 18, .r (.load false 1 (.loc 5)), none⟩,
 ⟨.tmp 19, .r (.mov (.loc 1)), none⟩,
 ⟨.tmp 20, .r (.mov (.loc 2)), none⟩,
 ⟨.tmp 21, .call f0 [.tmp 18, .tmp 19, .tmp 20], none⟩,
 ⟨.tmp 22, .r (.not (.tmp 21)), none⟩,
 ⟨.tmp 23, .r (.mov (.tmp 22)), none⟩,
 ⟨.tmp 24, .r (.load false 1 (.loc 8)), some (.tmp 23, false)⟩,
 ⟨.tmp 25, .r (.bin .lss (.tmp 24) (.cst (.int .i64 1))), some (.tmp 23, false)⟩,
 ⟨.tmp 26, .r (.pick (.tmp 23) (.cst (.bool true)) (.tmp 25)), none⟩,
 ⟨.tmp 27, .r (.mov (.tmp 26)), none⟩,
 ⟨.tmp 28, .r (.load false 1 (.loc 8)), some (.tmp 27, false)⟩,
 ⟨.tmp 29, .r (.bin .gtr (.tmp 28) (.cst (.int .i64 1099511627776))), some (.tmp 27, false)⟩,
 ⟨.loc 30, .r (.pick (.tmp 27) (.cst (.bool true)) (.tmp 29)), none⟩])
 (.cond (.loc 30) (.seq (.reg [⟨.loc 10, .r (.mov (.cst (.int .i64 3))), none⟩])
 .ret)
 .skip))
 (.seq (.reg [⟨.tmp 31, .r (.load false 1 (.loc 9)), none⟩,
 ⟨.tmp 32, .call f1 [.tmp 31], none⟩,
 ⟨.loc 11, .h (.mk [(.int .i64 0)]), none⟩,
 ⟨.none, .h (.store 1 (.loc 11) (.tmp 32)), none⟩])
 (.seq (.seq (.reg [⟨.tmp 33, .r (.load false 1 (.loc 11)), none⟩,
 ⟨.tmp 34, .r (.mov (.loc 2)), none⟩,
 ⟨.loc 35, .r (.bin .gtr (.tmp 33) (.tmp 34)), none⟩])
 (.cond (.loc 35) (.seq (.reg [⟨.loc 10, .r (.mov (.cst (.int .i64 2))), none⟩])
 .ret)
 .skip))
 (.seq (.reg [⟨.tmp 36, .r (.mov (.loc 1)), none⟩,
 ⟨.tmp 37, .r (.load false 1 (.loc 8)), none⟩,
 ⟨.tmp 38, .r (.bin .rem (.tmp 37) (.cst (.int .i64 2))), none⟩,
 ⟨.tmp 39, .r (.mov (.loc 2)), none⟩,
 ⟨.tmp 40, .r (.bin .mul (.tmp 38) (.tmp 39)), none⟩,
 ⟨.tmp 41, .r (.bin .add (.tmp 36) (.tmp 40)), none⟩,
 ⟨.loc 12, .h (.mk [(.int .i64 0)]), none⟩,
 ⟨.none, .h (.store 1 (.loc 12) (.tmp 41)), none⟩])
 (.seq (.reg [⟨.tmp 42, .r (.clo f2 [.loc 9, .loc 5, .loc 12, .loc 8, .loc 11]), none⟩,
 ⟨.loc 13, .r (.mov (.tmp 42)), none⟩])
 (.seq (.seq (.reg [⟨.tmp 43, .r (.load false 1 (.loc 11)), none⟩,
 ⟨.loc 44, .r (.bin .sub (.tmp 43) (.cst (.int .i64 1))), none⟩,
 ⟨.loc 45, .r (.mov (.cst (.int .i64 0))), none⟩])
 (.block 0 (.loop (c_check_Save_l0 f0 f1 f2 f3))))
 (.seq (.seq (.reg [⟨.tmp 56, .r (.load false 1 (.loc 11)), none⟩,
 ⟨.loc 57, .r (.bin .gtr (.tmp 56) (.cst (.int .i64 1))), none⟩])
 (.cond (.loc 57) (.seq (.reg [⟨.tmp 58, .r (.load false 1 (.loc 5)), none⟩,
 ⟨.tmp 59, .call f3 [.tmp 58], none⟩,
 ⟨.loc 16, .r (.mov (.tmp 59)), none⟩])
 (.seq (.reg [⟨.tmp 60, .r (.mov (.loc 16)), none⟩,
 ⟨.loc 61, .r (.bin .neq (.tmp 60) (.cst (.int .i64 0))), none⟩])
 (.cond (.loc 61) (.seq (.reg [⟨.tmp 62, .r (.mov (.loc 16)), none⟩,
 ⟨.loc 10, .r (.mov (.tmp 62)), none⟩])
 .ret)
 .skip)))
 .skip))
 (.seq (.seq (.reg [⟨.tmp 63, .r (.mov (.loc 13)), none⟩,
 ⟨(.tmp 64), (.callv (.tmp 63) [(.cst (.int .i64 0))]), none⟩,
 ⟨.loc 17, .r (.mov (.tmp 64)), none⟩])
 (.seq (.reg [⟨.tmp 65, .r (.mov (.loc 17)), none⟩,
 ⟨.loc 66, .r (.bin .neq (.tmp 65) (.cst (.int .i64 0))), none⟩])
 (.cond (.loc 66) (.seq (.reg [⟨.tmp 67, .r (.mov (.loc 17)), none⟩,
 ⟨.loc 10, .r (.mov (.tmp 67)), none⟩])
 .ret)
 .skip)))
 (.seq (.reg [⟨.tmp 68, .r (.load false 1 (.loc 5)), none⟩,
 ⟨.tmp 69, .call f3 [.tmp 68], none⟩,
 ⟨.loc 10, .r (.mov (.tmp 69)), none⟩])
 .ret)))))))))), [(.tmp (.loc 10))]⟩

def c_check_Load_l0 (f0 f1 : FuncId) : AC := (.seq (.reg [⟨.loc 20, .r (.bin .lss (.loc 19) (.cst (.int .i64 2))), none⟩])
 (.seq (.cond (.loc 20) .skip
 (.exit 0))
 (.seq (.block 1 (.seq (.reg [⟨.tmp 21, .r (.mov (.loc 19)), none⟩,
 ⟨.loc 11, .r (.mov (.tmp 21)), none⟩])
 (.seq (.reg [⟨.tmp 23, .r (.mov (.loc 0)), none⟩,
 ⟨.tmp 24, .r (.mov (.loc 1)), none⟩,
 ⟨.tmp 25, .r (.mov (.loc 11)), none⟩,
 ⟨.tmp 26, .r (.mov (.loc 2)), none⟩,
 ⟨.tmp 27, .r (.bin .mul (.tmp 25) (.tmp 26)), none⟩,
 ⟨.tmp 28, .r (.bin .add (.tmp 24) (.tmp 27)), none⟩,
 ⟨.tmp 29, .r (.mov (.loc 2)), none⟩,
 ⟨.tmp 30, .r (.mov (.loc 11)), none⟩,
 ⟨.tmp 31, .call f1 [.tmp 23, .tmp 28, .tmp 29, .tmp 30], none⟩,
 ⟨.tmp 22, .r (.mov (.tmp 31)), none⟩,
 ⟨.tmp 32, .r (.ext (.tmp 22) 0), none⟩,
 ⟨.tmp 33, .r (.ext (.tmp 22) 1), none⟩,
 ⟨.loc 12, .r (.mov (.tmp 32)), none⟩,
 ⟨.loc 13, .r (.mov (.tmp 33)), none⟩])
 (.seq (.reg [⟨.tmp 34, .r (.mov (.loc 13)), none⟩,
 ⟨.tmp 35, .r (.mov (.loc 10)), none⟩,
 ⟨.loc 36, .r (.bin .gtr (.tmp 34) (.tmp 35)), none⟩])
 (.cond (.loc 36) (.reg [⟨.tmp 37, .r (.mov (.loc 12)), none⟩,
 ⟨.tmp 38, .r (.mov (.loc 13)), none⟩,
 ⟨.loc 9, .r (.mov (.tmp 37)), none⟩,
 ⟨.loc 10, .r (.mov (.tmp 38)), none⟩])
 .skip)))))
 (.reg [⟨.tmp 39, .r (.bin .add (.loc 19) (.cst (.int .i64 1))), none⟩,
 ⟨.loc 19, .r (.mov (.tmp 39)), none⟩]))))
/-- glebe/check.Load -/
def c_check_Load (f0 f1 : FuncId) : AFn := ⟨44, fun s => List.contains [0, 1, 2, 6, 7, 8, 9, 10, 11, 12, 13, 18, 19, 20, 36, 41] s, (.seq (.reg [⟨.loc 6, .r (.mov (.cst .nils)), none⟩,
 ⟨.loc 7, .r (.mov (.cst (.int .i64 0))), none⟩,
 ⟨.loc 8, .r (.mov (.cst (.int .i64 0))), none⟩])
 (.seq (.seq (.reg [⟨.tmp 14, .r (.mov (.loc 0)), none⟩,
 ⟨.tmp 15, .r (.mov (.loc 1)), none⟩,
 ⟨.tmp 16, .r (.mov (.loc 2)), none⟩,
 ⟨.tmp 17, .call f0 [.tmp 14, .tmp 15, .tmp 16], none⟩,
 ⟨.loc 18, .r (.not (.tmp 17)), none⟩])
 (.cond (.loc 18) (.seq (.reg [⟨.loc 6, .r (.mov (.cst .nils)), none⟩,
 ⟨.loc 7, .r (.mov (.cst (.int .i64 0))), none⟩,
 ⟨.loc 8, .r (.mov (.cst (.int .i64 3))), none⟩])
 .ret)
 .skip))
 (.seq (.reg [⟨.loc 9, .r (.mov (.cst .nils)), none⟩])
 (.seq (.reg [⟨.loc 10, .r (.mov (.cst (.int .i64 0))), none⟩])
 (.seq (.seq (.reg [⟨.loc 19, .r (.mov (.cst (.int .i64 0))), none⟩])
 (.block 0 (.loop (c_check_Load_l0 f0 f1))))
 (.seq (.seq (.reg [⟨.tmp 40, .r (.mov (.loc 10)), none⟩,
 ⟨.loc 41, .r (.bin .eql (.tmp 40) (.cst (.int .i64 0))), none⟩])
 (.cond (.loc 41) (.seq (.reg [⟨.loc 6, .r (.mov (.cst .nils)), none⟩,
 ⟨.loc 7, .r (.mov (.cst (.int .i64 0))), none⟩,
 ⟨.loc 8, .r (.mov (.cst (.int .i64 6))), none⟩])
 .ret)
 .skip))
 (.seq (.reg [⟨.tmp 42, .r (.mov (.loc 9)), none⟩,
 ⟨.tmp 43, .r (.mov (.loc 10)), none⟩,
 ⟨.loc 6, .r (.mov (.tmp 42)), none⟩,
 ⟨.loc 7, .r (.mov (.tmp 43)), none⟩,
 ⟨.loc 8, .r (.mov (.cst (.int .i64 0))), none⟩])
 .ret))))))), [(.tmp (.loc 6)), (.tmp (.loc 7)), (.tmp (.loc 8))]⟩

/-- glebe/check.may -/
def c_check_may (f0 : FuncId) : AFn := ⟨28, fun s => List.contains [0, 1, 2, 6] s, (.seq (.reg [⟨.loc 6, .r (.mov (.cst (.bool false))), none⟩])
 (.seq (.reg [⟨.tmp 7, .r (.mov (.loc 1)), none⟩,
 ⟨.tmp 8, .r (.bin .geq (.tmp 7) (.cst (.int .i64 0))), none⟩,
 ⟨.tmp 9, .r (.mov (.tmp 8)), none⟩,
 ⟨.tmp 10, .r (.mov (.loc 2)), some (.tmp 9, true)⟩,
 ⟨.tmp 11, .r (.bin .geq (.tmp 10) (.cst (.int .i64 1))), some (.tmp 9, true)⟩,
 ⟨.tmp 12, .r (.pick (.tmp 9) (.tmp 11) (.cst (.bool false))), none⟩,
 ⟨.tmp 13, .r (.mov (.tmp 12)), none⟩,
 ⟨.tmp 14, .r (.mov (.loc 1)), some (.tmp 13, true)⟩,
 ⟨.tmp 15, .r (.mov (.loc 0)), some (.tmp 13, true)⟩,
 ⟨.tmp 16, .call f0 [.tmp 15], some (.tmp 13, true)⟩,
 ⟨.tmp 17, .r (.bin .leq (.tmp 14) (.tmp 16)), some (.tmp 13, true)⟩,
 ⟨.tmp 18, .r (.pick (.tmp 13) (.tmp 17) (.cst (.bool false))), none⟩,
 ⟨.tmp 19, .r (.mov (.tmp 18)), none⟩,
 ⟨.tmp 20, .r (.mov (.loc 2)), some (.tmp 19, true)⟩,
 ⟨.tmp 21, .r (.mov (.loc 0)), some (.tmp 19, true)⟩,
 ⟨.tmp 22, .call f0 [.tmp 21], some (.tmp 19, true)⟩,
 ⟨.tmp 23, .r (.mov (.loc 1)), some (.tmp 19, true)⟩,
 ⟨.tmp 24, .r (.bin .sub (.tmp 22) (.tmp 23)), some (.tmp 19, true)⟩,
 ⟨.tmp 25, .r (.bin .quo (.tmp 24) (.cst (.int .i64 2))), some (.tmp 19, true)⟩,
 ⟨.tmp 26, .r (.bin .leq (.tmp 20) (.tmp 25)), some (.tmp 19, true)⟩,
 ⟨.tmp 27, .r (.pick (.tmp 19) (.tmp 26) (.cst (.bool false))), none⟩,
 ⟨.loc 6, .r (.mov (.tmp 27)), none⟩])
 .ret)), [(.tmp (.loc 6))]⟩

/-- glebe/check.pieces -/
def c_check_pieces : AFn := ⟨9, fun s => List.contains [0, 2] s, (.seq (.reg [⟨.loc 2, .r (.mov (.cst (.int .i64 0))), none⟩])
 (.seq (.reg [⟨.tmp 3, .r (.mov (.loc 0)), none⟩,
 ⟨.tmp 4, .r (.len (.tmp 3)), none⟩,
 ⟨.tmp 5, .r (.bin .add (.tmp 4) (.cst (.int .i64 40))), none⟩,
 ⟨.tmp 6, .r (.bin .sub (.tmp 5) (.cst (.int .i64 1))), none⟩,
 ⟨.tmp 7, .r (.bin .quo (.tmp 6) (.cst (.int .i64 40))), none⟩,
 ⟨.tmp 8, .r (.mnmx true [(.cst (.int .i64 1)), .tmp 7]), none⟩,
 ⟨.loc 2, .r (.mov (.tmp 8)), none⟩])
 .ret)), [(.tmp (.loc 2))]⟩

/-- glebe/check.Save$1 -/
def c_check_Save_f1 (f0 f1 : FuncId) : AFn := ⟨35, fun s => List.contains [0, 1, 2, 3, 4, 5, 7, 8] s, (.seq (.reg [⟨.loc 7, .r (.mov (.cst (.int .i64 0))), none⟩])
 (.seq (.reg [⟨.tmp 9, .r (.load false 1 (.loc 1)), none⟩,
 ⟨.tmp 10, .r (.mov (.loc 0)), none⟩,
 ⟨.tmp 11, .r (.bin .mul (.tmp 10) (.cst (.int .i64 40))), none⟩,
 ⟨.tmp 12, .r (.load false 1 (.loc 1)), none⟩,
 ⟨.tmp 13, .r (.len (.tmp 12)), none⟩,
 ⟨.tmp 14, .r (.mnmx false [.tmp 11, .tmp 13]), none⟩,
 ⟨.tmp 15, .r (.mov (.loc 0)), none⟩,
 ⟨.tmp 16, .r (.bin .add (.tmp 15) (.cst (.int .i64 1))), none⟩,
 ⟨.tmp 17, .r (.bin .mul (.tmp 16) (.cst (.int .i64 40))), none⟩,
 ⟨.tmp 18, .r (.load false 1 (.loc 1)), none⟩,
 ⟨.tmp 19, .r (.len (.tmp 18)), none⟩,
 ⟨.tmp 20, .r (.mnmx false [.tmp 17, .tmp 19]), none⟩,
 ⟨.tmp 21, .r (.slc 1 (.tmp 9) (some (.tmp 14)) (some (.tmp 20)) none), none⟩,
 ⟨.loc 8, .r (.mov (.tmp 21)), none⟩])
 (.seq (.dreg ⟨[0, 0, 0, 6, 0, 0, 0, 0, 128, 448, 0, 2032, 4095, 8191], 0, [⟨0, 0, false, .r (.load false 1 (.loc 2)), none⟩,
 ⟨1, 0, false, .r (.load false 1 (.loc 3)), none⟩,
 ⟨2, 0, false, .r (.mov (.loc 0)), none⟩,
 ⟨3, 0, false, .r (.bin .add (.tmp 1) (.tmp 2)), none⟩,
 ⟨4, 0, false, .r (.load false 1 (.loc 4)), none⟩,
 ⟨5, 0, false, .r (.mov (.loc 0)), none⟩,
 ⟨6, 0, false, .r (.mov (.loc 0)), none⟩,
 ⟨7, 0, false, .r (.load false 1 (.loc 5)), none⟩,
 ⟨8, 0, false, .r (.bin .sub (.tmp 7) (.cst (.int .i64 1))), none⟩,
 ⟨9, 0, false, .r (.bin .eql (.tmp 6) (.tmp 8)), none⟩,
 ⟨10, 0, false, .r (.mov (.loc 8)), none⟩,
 ⟨11, 0, true, .call f0 [.tmp 4, .tmp 5, .tmp 9, .tmp 10], none⟩,
 ⟨12, 0, true, .call f1 [.tmp 0, .tmp 3, .tmp 11], none⟩,
 ⟨13, 0, false, .r (.mov (.tmp 12)), none⟩], [(7, 13)]⟩)
 .ret))), [(.tmp (.loc 7))]⟩

/-- glebe/check.laid -/
def c_check_laid (f0 : FuncId) : AFn := ⟨24, fun s => List.contains [0, 1, 2, 3, 8, 9, 10, 13] s, (.seq (.reg [⟨.loc 8, .r (.mov (.cst .nils)), none⟩])
 (.seq (.reg [⟨.tmp 11, .r (.mov (.loc 1)), none⟩,
 ⟨.tmp 12, .r (.bin .mul (.cst (.int .i64 2)) (.tmp 11)), none⟩,
 ⟨.loc 9, .r (.mov (.tmp 12)), none⟩])
 (.seq (.seq (.reg [⟨.loc 13, .r (.mov (.loc 2)), none⟩])
 (.cond (.loc 13) (.reg [⟨.tmp 14, .r (.mov (.loc 9)), none⟩,
 ⟨.tmp 15, .r (.bin .add (.tmp 14) (.cst (.int .i64 1))), none⟩,
 ⟨.loc 9, .r (.mov (.tmp 15)), none⟩])
 .skip))
 (.seq (.reg [⟨.tmp 16, .r (.mov (.loc 0)), none⟩,
 ⟨.tmp 17, .call f0 [(.cst .nils), .tmp 16], none⟩,
 ⟨.tmp 18, .call f0 [.tmp 17, (.cst (.int .i64 0))], none⟩,
 ⟨.tmp 19, .r (.mov (.loc 9)), none⟩,
 ⟨.tmp 20, .call f0 [.tmp 18, .tmp 19], none⟩,
 ⟨.loc 10, .r (.mov (.tmp 20)), none⟩])
 (.seq (.reg [⟨.tmp 21, .r (.mov (.loc 10)), none⟩,
 ⟨.tmp 22, .r (.mov (.loc 3)), none⟩,
 ⟨.tmp 23, .h (.app 1 1 (.tmp 21) (.tmp 22)), none⟩,
 ⟨.loc 8, .r (.mov (.tmp 23)), none⟩])
 .ret))))), [(.tmp (.loc 8))]⟩

def c_check_whole_l0 (f0 : FuncId) : AC := (.seq (.reg [⟨.loc 19, .r (.bin .lss (.loc 18) (.loc 17)), none⟩])
 (.seq (.cond (.loc 19) .skip
 (.exit 0))
 (.seq (.block 1 (.seq (.reg [⟨.tmp 20, .r (.mov (.loc 18)), none⟩,
 ⟨.loc 12, .r (.mov (.tmp 20)), none⟩])
 (.seq (.reg [⟨.tmp 22, .r (.mov (.loc 0)), none⟩,
 ⟨.tmp 23, .r (.mov (.loc 1)), none⟩,
 ⟨.tmp 24, .r (.mov (.loc 12)), none⟩,
 ⟨.tmp 25, .r (.bin .add (.tmp 23) (.tmp 24)), none⟩,
 ⟨.tmp 26, .r (.mov (.loc 12)), none⟩,
 ⟨.tmp 27, .call f0 [.tmp 22, .tmp 25, .tmp 26], none⟩,
 ⟨.tmp 21, .r (.mov (.tmp 27)), none⟩,
 ⟨.tmp 28, .r (.ext (.tmp 21) 0), none⟩,
 ⟨.tmp 29, .r (.ext (.tmp 21) 1), none⟩,
 ⟨.tmp 30, .r (.ext (.tmp 21) 2), none⟩,
 ⟨.tmp 31, .r (.ext (.tmp 21) 3), none⟩,
 ⟨.loc 13, .r (.mov (.tmp 28)), none⟩,
 ⟨.loc 14, .r (.mov (.tmp 29)), none⟩,
 ⟨.loc 15, .r (.mov (.tmp 30)), none⟩,
 ⟨.loc 16, .r (.mov (.tmp 31)), none⟩])
 (.seq (.seq (.reg [⟨.tmp 32, .r (.mov (.loc 12)), none⟩,
 ⟨.loc 33, .r (.bin .eql (.tmp 32) (.cst (.int .i64 0))), none⟩])
 (.cond (.loc 33) (.reg [⟨.tmp 34, .r (.mov (.loc 13)), none⟩,
 ⟨.loc 11, .r (.mov (.tmp 34)), none⟩])
 .skip))
 (.seq (.seq (.reg [⟨.tmp 35, .r (.mov (.loc 16)), none⟩,
 ⟨.tmp 36, .r (.not (.tmp 35)), none⟩,
 ⟨.tmp 37, .r (.mov (.tmp 36)), none⟩,
 ⟨.tmp 38, .r (.mov (.loc 13)), some (.tmp 37, false)⟩,
 ⟨.tmp 39, .r (.mov (.loc 11)), some (.tmp 37, false)⟩,
 ⟨.tmp 40, .r (.bin .neq (.tmp 38) (.tmp 39)), some (.tmp 37, false)⟩,
 ⟨.tmp 41, .r (.pick (.tmp 37) (.cst (.bool true)) (.tmp 40)), none⟩,
 ⟨.tmp 42, .r (.mov (.tmp 41)), none⟩,
 ⟨.tmp 43, .r (.mov (.loc 13)), some (.tmp 42, false)⟩,
 ⟨.tmp 44, .r (.bin .lss (.tmp 43) (.cst (.int .i64 1))), some (.tmp 42, false)⟩,
 ⟨.tmp 45, .r (.pick (.tmp 42) (.cst (.bool true)) (.tmp 44)), none⟩,
 ⟨.tmp 46, .r (.mov (.tmp 45)), none⟩,
 ⟨.tmp 47, .r (.mov (.loc 13)), some (.tmp 46, false)⟩,
 ⟨.tmp 48, .r (.bin .gtr (.tmp 47) (.cst (.int .i64 1099511627776))), some (.tmp 46, false)⟩,
 ⟨.tmp 49, .r (.pick (.tmp 46) (.cst (.bool true)) (.tmp 48)), none⟩,
 ⟨.tmp 50, .r (.mov (.tmp 49)), none⟩,
 ⟨.tmp 51, .r (.mov (.loc 13)), some (.tmp 50, false)⟩,
 ⟨.tmp 52, .r (.bin .rem (.tmp 51) (.cst (.int .i64 2))), some (.tmp 50, false)⟩,
 ⟨.tmp 53, .r (.mov (.loc 3)), some (.tmp 50, false)⟩,
 ⟨.tmp 54, .r (.bin .neq (.tmp 52) (.tmp 53)), some (.tmp 50, false)⟩,
 ⟨.loc 55, .r (.pick (.tmp 50) (.cst (.bool true)) (.tmp 54)), none⟩])
 (.cond (.loc 55) (.seq (.reg [⟨.loc 8, .r (.mov (.cst .nils)), none⟩,
 ⟨.loc 9, .r (.mov (.cst (.int .i64 0))), none⟩])
 .ret)
 .skip))
 (.seq (.reg [⟨.tmp 56, .r (.mov (.loc 10)), none⟩,
 ⟨.tmp 57, .r (.mov (.loc 15)), none⟩,
 ⟨.tmp 58, .h (.app 1 1 (.tmp 56) (.tmp 57)), none⟩,
 ⟨.loc 10, .r (.mov (.tmp 58)), none⟩])
 (.seq (.reg [⟨.loc 59, .r (.mov (.loc 14)), none⟩])
 (.cond (.loc 59) (.seq (.reg [⟨.tmp 60, .r (.mov (.loc 10)), none⟩,
 ⟨.tmp 61, .r (.mov (.loc 13)), none⟩,
 ⟨.loc 8, .r (.mov (.tmp 60)), none⟩,
 ⟨.loc 9, .r (.mov (.tmp 61)), none⟩])
 .ret)
 .skip))))))))
 (.reg [⟨.tmp 62, .r (.bin .add (.loc 18) (.cst (.int .i64 1))), none⟩,
 ⟨.loc 18, .r (.mov (.tmp 62)), none⟩]))))
/-- glebe/check.whole -/
def c_check_whole (f0 : FuncId) : AFn := ⟨63, fun s => List.contains [0, 1, 2, 3, 8, 9, 10, 11, 12, 13, 14, 15, 16, 17, 18, 19, 33, 55, 59] s, (.seq (.reg [⟨.loc 8, .r (.mov (.cst .nils)), none⟩,
 ⟨.loc 9, .r (.mov (.cst (.int .i64 0))), none⟩])
 (.seq (.reg [⟨.loc 10, .r (.mov (.cst .nils)), none⟩])
 (.seq (.reg [⟨.loc 11, .r (.mov (.cst (.int .i64 0))), none⟩])
 (.seq (.seq (.reg [⟨.loc 17, .r (.mov (.loc 2)), none⟩,
 ⟨.loc 18, .r (.mov (.cst (.int .i64 0))), none⟩])
 (.block 0 (.loop (c_check_whole_l0 f0))))
 (.seq (.reg [⟨.loc 8, .r (.mov (.cst .nils)), none⟩,
 ⟨.loc 9, .r (.mov (.cst (.int .i64 0))), none⟩])
 .ret))))), [(.tmp (.loc 8)), (.tmp (.loc 9))]⟩

/-- glebe/check.piece -/
def c_check_piece (f0 f1 f2 f3 f4 : FuncId) : AFn := ⟨68, fun s => List.contains [0, 1, 2, 6, 7, 8, 9, 10, 11, 12, 13, 14, 48] s, (.seq (.reg [⟨.loc 6, .r (.mov (.cst (.int .i64 0))), none⟩,
 ⟨.loc 7, .r (.mov (.cst (.bool false))), none⟩,
 ⟨.loc 8, .r (.mov (.cst .nils)), none⟩,
 ⟨.loc 9, .r (.mov (.cst (.bool false))), none⟩])
 (.seq (.reg [⟨.tmp 16, .r (.mov (.loc 0)), none⟩,
 ⟨.tmp 17, .r (.mov (.loc 1)), none⟩,
 ⟨.tmp 18, .call f0 [.tmp 16, .tmp 17], none⟩,
 ⟨.tmp 15, .r (.mov (.tmp 18)), none⟩,
 ⟨.tmp 19, .r (.ext (.tmp 15) 0), none⟩,
 ⟨.tmp 20, .r (.ext (.tmp 15) 1), none⟩,
 ⟨.loc 10, .r (.mov (.tmp 19)), none⟩,
 ⟨.loc 11, .r (.mov (.tmp 20)), none⟩])
 (.seq (.reg [⟨.tmp 21, .r (.mov (.loc 10)), none⟩,
 ⟨.tmp 22, .call f1 [.tmp 21], none⟩,
 ⟨.loc 12, .r (.mov (.tmp 22)), none⟩])
 (.seq (.reg [⟨.tmp 23, .r (.mov (.loc 12)), none⟩,
 ⟨.tmp 24, .call f2 [.tmp 23], none⟩,
 ⟨.loc 6, .r (.mov (.tmp 24)), none⟩])
 (.seq (.reg [⟨.tmp 25, .r (.mov (.loc 12)), none⟩,
 ⟨.tmp 26, .call f2 [.tmp 25], none⟩,
 ⟨.tmp 27, .r (.mov (.loc 12)), none⟩,
 ⟨.tmp 28, .call f2 [.tmp 27], none⟩,
 ⟨.loc 13, .r (.mov (.tmp 26)), none⟩,
 ⟨.loc 14, .r (.mov (.tmp 28)), none⟩])
 (.seq (.seq (.reg [⟨.tmp 29, .r (.mov (.loc 11)), none⟩,
 ⟨.tmp 30, .r (.bin .neq (.tmp 29) (.cst (.int .i64 0))), none⟩,
 ⟨.tmp 31, .r (.mov (.tmp 30)), none⟩,
 ⟨.tmp 32, .r (.mov (.loc 12)), some (.tmp 31, false)⟩,
 ⟨.tmp 33, .call f3 [.tmp 32], some (.tmp 31, false)⟩,
 ⟨.tmp 34, .r (.pick (.tmp 31) (.cst (.bool true)) (.tmp 33)), none⟩,
 ⟨.tmp 35, .r (.mov (.tmp 34)), none⟩,
 ⟨.tmp 36, .r (.mov (.loc 13)), some (.tmp 35, false)⟩,
 ⟨.tmp 37, .r (.bin .neq (.tmp 36) (.cst (.int .i64 0))), some (.tmp 35, false)⟩,
 ⟨.tmp 38, .r (.pick (.tmp 35) (.cst (.bool true)) (.tmp 37)), none⟩,
 ⟨.tmp 39, .r (.mov (.tmp 38)), none⟩,
 ⟨.tmp 40, .r (.mov (.loc 14)), some (.tmp 39, false)⟩,
 ⟨.tmp 41, .r (.bin .quo (.tmp 40) (.cst (.int .i64 2))), some (.tmp 39, false)⟩,
 ⟨.tmp 42, .r (.mov (.loc 2)), some (.tmp 39, false)⟩,
 ⟨.tmp 43, .r (.bin .neq (.tmp 41) (.tmp 42)), some (.tmp 39, false)⟩,
 ⟨.tmp 44, .r (.pick (.tmp 39) (.cst (.bool true)) (.tmp 43)), none⟩,
 ⟨.tmp 45, .r (.mov (.tmp 44)), none⟩,
 ⟨.tmp 46, .r (.mov (.loc 14)), some (.tmp 45, false)⟩,
 ⟨.tmp 47, .r (.bin .lss (.tmp 46) (.cst (.int .i64 0))), some (.tmp 45, false)⟩,
 ⟨.loc 48, .r (.pick (.tmp 45) (.cst (.bool true)) (.tmp 47)), none⟩])
 (.cond (.loc 48) (.seq (.reg [⟨.loc 6, .r (.mov (.cst (.int .i64 0))), none⟩,
 ⟨.loc 7, .r (.mov (.cst (.bool false))), none⟩,
 ⟨.loc 8, .r (.mov (.cst .nils)), none⟩,
 ⟨.loc 9, .r (.mov (.cst (.bool false))), none⟩])
 .ret)
 .skip))
 (.seq (.reg [⟨.tmp 49, .r (.mov (.loc 10)), none⟩,
 ⟨.tmp 50, .r (.mov (.loc 10)), none⟩,
 ⟨.tmp 51, .r (.len (.tmp 50)), none⟩,
 ⟨.tmp 52, .r (.mov (.loc 12)), none⟩,
 ⟨.tmp 53, .call f4 [.tmp 52], none⟩,
 ⟨.tmp 54, .r (.bin .sub (.tmp 51) (.tmp 53)), none⟩,
 ⟨.tmp 55, .r (.slc 1 (.tmp 49) (some (.tmp 54)) none none), none⟩,
 ⟨.loc 8, .r (.mov (.tmp 55)), none⟩])
 (.seq (.reg [⟨.tmp 56, .r (.mov (.loc 14)), none⟩,
 ⟨.tmp 57, .r (.bin .rem (.tmp 56) (.cst (.int .i64 2))), none⟩,
 ⟨.tmp 58, .r (.bin .eql (.tmp 57) (.cst (.int .i64 1))), none⟩,
 ⟨.loc 7, .r (.mov (.tmp 58)), none⟩])
 (.seq (.reg [⟨.tmp 59, .r (.mov (.loc 6)), none⟩,
 ⟨.tmp 60, .r (.mov (.loc 7)), none⟩,
 ⟨.tmp 61, .r (.mov (.loc 8)), none⟩,
 ⟨.tmp 62, .r (.mov (.loc 7)), none⟩,
 ⟨.tmp 63, .r (.mov (.tmp 62)), none⟩,
 ⟨.tmp 64, .r (.mov (.loc 8)), some (.tmp 63, false)⟩,
 ⟨.tmp 65, .r (.len (.tmp 64)), some (.tmp 63, false)⟩,
 ⟨.tmp 66, .r (.bin .eql (.tmp 65) (.cst (.int .i64 40))), some (.tmp 63, false)⟩,
 ⟨.tmp 67, .r (.pick (.tmp 63) (.cst (.bool true)) (.tmp 66)), none⟩,
 ⟨.loc 6, .r (.mov (.tmp 59)), none⟩,
 ⟨.loc 7, .r (.mov (.tmp 60)), none⟩,
 ⟨.loc 8, .r (.mov (.tmp 61)), none⟩,
 ⟨.loc 9, .r (.mov (.tmp 67)), none⟩])
 .ret))))))))), [(.tmp (.loc 6)), (.tmp (.loc 7)), (.tmp (.loc 8)), (.tmp (.loc 9))]⟩

end Glb
