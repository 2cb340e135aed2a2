/-
  What functions of the program are, one by one (the functions that they call as parameters), in a form of which something can be shown.
-/
import Derived.Test.YtodbhmdfmdfiaaaGlbLibB
set_option linter.unusedSimpArgs false
set_option linter.unusedVariables false
namespace Glb
open Go
set_option maxRecDepth 100000

/-- glebe/quorum.Check -/
def c_quorum_Check (f0 f1 f2 : FuncId) : AFn := ⟨34, fun s => List.contains [0, 1, 2, 3, 33] s, (.seq (.reg [⟨.loc 1, .h (.box (.loc 0)), none⟩,
 ⟨.loc 2, .r (.mov (.cst (.int .i64 0))), none⟩])
 (.seq (.reg [⟨.tmp 4, .r (.clo f0 [.loc 1]), none⟩,
 ⟨.loc 3, .r (.mov (.tmp 4)), none⟩])
 (.seq (.seq (.reg [⟨.tmp 5, .r (.off 0 (.loc 1)), none⟩,
 ⟨.tmp 6, .r (.load false 1 (.tmp 5)), none⟩,
 ⟨.tmp 7, .r (.len (.tmp 6)), none⟩,
 ⟨.tmp 8, .r (.bin .eql (.tmp 7) (.cst (.int .i64 0))), none⟩,
 ⟨.tmp 9, .r (.mov (.tmp 8)), none⟩,
 ⟨.tmp 10, .r (.off 0 (.loc 1)), some (.tmp 9, false)⟩,
 ⟨.tmp 11, .r (.load false 1 (.tmp 10)), some (.tmp 9, false)⟩,
 ⟨.tmp 12, .call f1 [.tmp 11], some (.tmp 9, false)⟩,
 ⟨.tmp 13, .r (.not (.tmp 12)), some (.tmp 9, false)⟩,
 ⟨.tmp 14, .r (.pick (.tmp 9) (.cst (.bool true)) (.tmp 13)), none⟩,
 ⟨.tmp 15, .r (.mov (.tmp 14)), none⟩,
 ⟨.tmp 16, .r (.off 1 (.loc 1)), some (.tmp 15, false)⟩,
 ⟨.tmp 17, .r (.load false 1 (.tmp 16)), some (.tmp 15, false)⟩,
 ⟨.tmp 18, .call f1 [.tmp 17], some (.tmp 15, false)⟩,
 ⟨.tmp 19, .r (.not (.tmp 18)), some (.tmp 15, false)⟩,
 ⟨.tmp 20, .r (.pick (.tmp 15) (.cst (.bool true)) (.tmp 19)), none⟩,
 ⟨.tmp 21, .r (.mov (.tmp 20)), none⟩,
 ⟨.tmp 22, .r (.off 2 (.loc 1)), some (.tmp 21, false)⟩,
 ⟨.tmp 23, .r (.load false 1 (.tmp 22)), some (.tmp 21, false)⟩,
 ⟨.tmp 24, .call f1 [.tmp 23], some (.tmp 21, false)⟩,
 ⟨.tmp 25, .r (.not (.tmp 24)), some (.tmp 21, false)⟩,
 ⟨.tmp 26, .r (.pick (.tmp 21) (.cst (.bool true)) (.tmp 25)), none⟩,
 ⟨.tmp 27, .r (.mov (.tmp 26)), none⟩,
 ⟨.tmp 28, .r (.off 2 (.loc 1)), some (.tmp 27, false)⟩,
 ⟨.tmp 29, .r (.load false 1 (.tmp 28)), some (.tmp 27, false)⟩,
 ⟨.tmp 30, .r (.mov (.loc 3)), some (.tmp 27, false)⟩,
 ⟨.tmp 31, .call f2 [.tmp 29, .tmp 30], some (.tmp 27, false)⟩,
 ⟨.tmp 32, .r (.bin .gtr (.tmp 31) (.cst (.int .i64 0))), some (.tmp 27, false)⟩,
 ⟨.loc 33, .r (.pick (.tmp 27) (.cst (.bool true)) (.tmp 32)), none⟩])
 (.cond (.loc 33) (.seq (.reg [⟨.loc 2, .r (.mov (.cst (.int .i64 29))), none⟩])
 .ret)
 .skip))
 (.seq (.reg [⟨.loc 2, .r (.mov (.cst (.int .i64 0))), none⟩])
 .ret)))), [(.tmp (.loc 2))]⟩

/-- glebe/quorum.Check$1 -/
def c_quorum_Check_f1 (f0 : FuncId) : AFn := ⟨14, fun s => List.contains [0, 1, 3] s, (.seq (.reg [⟨.loc 3, .r (.mov (.cst (.bool false))), none⟩])
 (.seq (.reg [⟨.tmp 4, .r (.off 0 (.loc 1)), none⟩,
 ⟨.tmp 5, .r (.load false 1 (.tmp 4)), none⟩,
 ⟨.tmp 6, .r (.mov (.loc 0)), none⟩,
 ⟨.tmp 7, .call f0 [.tmp 5, .tmp 6], none⟩,
 ⟨.tmp 8, .r (.mov (.tmp 7)), none⟩,
 ⟨.tmp 9, .r (.off 1 (.loc 1)), some (.tmp 8, false)⟩,
 ⟨.tmp 10, .r (.load false 1 (.tmp 9)), some (.tmp 8, false)⟩,
 ⟨.tmp 11, .r (.mov (.loc 0)), some (.tmp 8, false)⟩,
 ⟨.tmp 12, .call f0 [.tmp 10, .tmp 11], some (.tmp 8, false)⟩,
 ⟨.tmp 13, .r (.pick (.tmp 8) (.cst (.bool true)) (.tmp 12)), none⟩,
 ⟨.loc 3, .r (.mov (.tmp 13)), none⟩])
 .ret)), [(.tmp (.loc 3))]⟩

/-- slices.Contains[[]int,int] -/
def c_slices_Contains_int_int (f0 : FuncId) : AFn := ⟨9, fun s => List.contains [0, 1, 4] s, (.seq (.reg [⟨.loc 4, .r (.mov (.cst (.bool false))), none⟩])
 (.seq (.reg [⟨.tmp 5, .r (.mov (.loc 0)), none⟩,
 ⟨.tmp 6, .r (.mov (.loc 1)), none⟩,
 ⟨.tmp 7, .call f0 [.tmp 5, .tmp 6], none⟩,
 ⟨.tmp 8, .r (.bin .geq (.tmp 7) (.cst (.int .i64 0))), none⟩,
 ⟨.loc 4, .r (.mov (.tmp 8)), none⟩])
 .ret)), [(.tmp (.loc 4))]⟩

def c_quorum_rises_l0 : AC := (.seq (.reg [⟨.loc 8, .r (.bin .lss (.loc 7) (.loc 6)), none⟩])
 (.seq (.cond (.loc 8) .skip
 (.exit 0))
 (.seq (.block 1 (.seq (.reg [⟨.tmp 9, .r (.mov (.loc 7)), none⟩,
 ⟨.tmp 10, .r (.idx 1 (.loc 5) (.loc 7)), none⟩,
 ⟨.tmp 11, .r (.load false 1 (.tmp 10)), none⟩,
 ⟨.loc 3, .r (.mov (.tmp 9)), none⟩,
 ⟨.loc 4, .r (.mov (.tmp 11)), none⟩])
 (.seq (.reg [⟨.tmp 12, .r (.mov (.loc 4)), none⟩,
 ⟨.tmp 13, .r (.bin .lss (.tmp 12) (.cst (.int .i64 1))), none⟩,
 ⟨.tmp 14, .r (.mov (.tmp 13)), none⟩,
 ⟨.tmp 15, .r (.mov (.loc 4)), some (.tmp 14, false)⟩,
 ⟨.tmp 16, .r (.bin .gtr (.tmp 15) (.cst (.int .i64 7))), some (.tmp 14, false)⟩,
 ⟨.tmp 17, .r (.pick (.tmp 14) (.cst (.bool true)) (.tmp 16)), none⟩,
 ⟨.tmp 18, .r (.mov (.tmp 17)), none⟩,
 ⟨.tmp 19, .r (.mov (.loc 3)), some (.tmp 18, false)⟩,
 ⟨.tmp 20, .r (.bin .gtr (.tmp 19) (.cst (.int .i64 0))), some (.tmp 18, false)⟩,
 ⟨.tmp 21, .r (.mov (.tmp 20)), some (.tmp 18, false)⟩,
 ⟨.tmp 22, .r (.mov (.loc 4)), some (.tmp 21, true)⟩,
 ⟨.tmp 23, .r (.mov (.loc 0)), some (.tmp 21, true)⟩,
 ⟨.tmp 24, .r (.mov (.loc 3)), some (.tmp 21, true)⟩,
 ⟨.tmp 25, .r (.bin .sub (.tmp 24) (.cst (.int .i64 1))), some (.tmp 21, true)⟩,
 ⟨.tmp 26, .r (.idx 1 (.tmp 23) (.tmp 25)), some (.tmp 21, true)⟩,
 ⟨.tmp 27, .r (.load false 1 (.tmp 26)), some (.tmp 21, true)⟩,
 ⟨.tmp 28, .r (.bin .leq (.tmp 22) (.tmp 27)), some (.tmp 21, true)⟩,
 ⟨.tmp 29, .r (.pick (.tmp 21) (.tmp 28) (.cst (.bool false))), some (.tmp 18, false)⟩,
 ⟨.loc 30, .r (.pick (.tmp 18) (.cst (.bool true)) (.tmp 29)), none⟩])
 (.cond (.loc 30) (.seq (.reg [⟨.loc 2, .r (.mov (.cst (.bool false))), none⟩])
 .ret)
 .skip))))
 (.reg [⟨.tmp 31, .r (.bin .add (.loc 7) (.cst (.int .i64 1))), none⟩,
 ⟨.loc 7, .r (.mov (.tmp 31)), none⟩]))))
/-- glebe/quorum.rises -/
def c_quorum_rises : AFn := ⟨32, fun s => List.contains [0, 2, 3, 4, 5, 6, 7, 8, 30] s, (.seq (.reg [⟨.loc 2, .r (.mov (.cst (.bool false))), none⟩])
 (.seq (.seq (.reg [⟨.loc 5, .r (.mov (.loc 0)), none⟩,
 ⟨.loc 6, .r (.len (.loc 5)), none⟩,
 ⟨.loc 7, .r (.mov (.cst (.int .i64 0))), none⟩])
 (.block 0 (.loop (c_quorum_rises_l0))))
 (.seq (.reg [⟨.loc 2, .r (.mov (.cst (.bool true))), none⟩])
 .ret))), [(.tmp (.loc 2))]⟩

def c_quorum_count_int_l0 : AC := (.seq (.reg [⟨.loc 11, .r (.bin .lss (.loc 10) (.loc 9)), none⟩])
 (.seq (.cond (.loc 11) .skip
 (.exit 0))
 (.seq (.block 1 (.seq (.reg [⟨.tmp 12, .r (.idx 1 (.loc 8) (.loc 10)), none⟩,
 ⟨.tmp 13, .r (.load false 1 (.tmp 12)), none⟩,
 ⟨.loc 7, .r (.mov (.tmp 13)), none⟩])
 (.seq (.reg [⟨.tmp 14, .r (.mov (.loc 1)), none⟩,
 ⟨.tmp 15, .r (.mov (.loc 7)), none⟩,
 ⟨(.loc 16), (.callv (.tmp 14) [.tmp 15]), none⟩])
 (.cond (.loc 16) (.reg [⟨.tmp 17, .r (.mov (.loc 5)), none⟩,
 ⟨.tmp 18, .r (.bin .add (.tmp 17) (.cst (.int .i64 1))), none⟩,
 ⟨.loc 5, .r (.mov (.tmp 18)), none⟩])
 .skip))))
 (.reg [⟨.tmp 19, .r (.bin .add (.loc 10) (.cst (.int .i64 1))), none⟩,
 ⟨.loc 10, .r (.mov (.tmp 19)), none⟩]))))
/-- glebe/quorum.count[int] -/
def c_quorum_count_int : AFn := ⟨21, fun s => List.contains [0, 1, 4, 5, 7, 8, 9, 10, 11, 16] s, (.seq (.reg [⟨.loc 4, .r (.mov (.cst (.int .i64 0))), none⟩])
 (.seq (.reg [⟨.loc 5, .r (.mov (.cst (.int .i64 0))), none⟩])
 (.seq (.seq (.reg [⟨.loc 8, .r (.mov (.loc 0)), none⟩,
 ⟨.loc 9, .r (.len (.loc 8)), none⟩,
 ⟨.loc 10, .r (.mov (.cst (.int .i64 0))), none⟩])
 (.block 0 (.loop (c_quorum_count_int_l0))))
 (.seq (.reg [⟨.tmp 20, .r (.mov (.loc 5)), none⟩,
 ⟨.loc 4, .r (.mov (.tmp 20)), none⟩])
 .ret)))), [(.tmp (.loc 4))]⟩

def c_slices_Index_int_int_l0 : AC := (.seq (.reg [⟨.loc 9, .r (.bin .lss (.loc 8) (.loc 7)), none⟩])
 (.seq (.cond (.loc 9) .skip
 (.exit 0))
 (.seq (.block 1 (.seq (.reg [⟨.tmp 10, .r (.mov (.loc 8)), none⟩,
 ⟨.loc 5, .r (.mov (.tmp 10)), none⟩])
 (.seq (.reg [⟨.tmp 11, .r (.mov (.loc 1)), none⟩,
 ⟨.tmp 12, .r (.mov (.loc 0)), none⟩,
 ⟨.tmp 13, .r (.mov (.loc 5)), none⟩,
 ⟨.tmp 14, .r (.idx 1 (.tmp 12) (.tmp 13)), none⟩,
 ⟨.tmp 15, .r (.load false 1 (.tmp 14)), none⟩,
 ⟨.loc 16, .r (.bin .eql (.tmp 11) (.tmp 15)), none⟩])
 (.cond (.loc 16) (.seq (.reg [⟨.tmp 17, .r (.mov (.loc 5)), none⟩,
 ⟨.loc 4, .r (.mov (.tmp 17)), none⟩])
 .ret)
 .skip))))
 (.reg [⟨.tmp 18, .r (.bin .add (.loc 8) (.cst (.int .i64 1))), none⟩,
 ⟨.loc 8, .r (.mov (.tmp 18)), none⟩]))))
/-- slices.Index[[]int,int] -/
def c_slices_Index_int_int : AFn := ⟨19, fun s => List.contains [0, 1, 4, 5, 7, 8, 9, 16] s, (.seq (.reg [⟨.loc 4, .r (.mov (.cst (.int .i64 0))), none⟩])
 (.seq (.seq (.reg [⟨.tmp 6, .r (.mov (.loc 0)), none⟩,
 ⟨.loc 7, .r (.len (.tmp 6)), none⟩,
 ⟨.loc 8, .r (.mov (.cst (.int .i64 0))), none⟩])
 (.block 0 (.loop (c_slices_Index_int_int_l0))))
 (.seq (.reg [⟨.loc 4, .r (.mov (.cst (.int .i64 (-1)))), none⟩])
 .ret))), [(.tmp (.loc 4))]⟩

end Glb
