/-
  What functions of the program are, one by one (the functions that they call as parameters), in a form of which something can be shown.
-/
import Derived.Test.YtodbhmdfmdfiaaaGlbLibB
set_option linter.unusedSimpArgs false
set_option linter.unusedVariables false
namespace Glb
open Go
set_option maxRecDepth 100000

/-- glebe/gleberef10.Voters -/
def c_gleberef10_Voters (f0 : FuncId) : AFn := ⟨9, fun s => List.contains [0, 1, 2] s, (.seq (.reg [⟨.loc 1, .h (.box (.loc 0)), none⟩,
 ⟨.loc 2, .r (.mov (.cst .nils)), none⟩])
 (.seq (.dreg ⟨[0, 1, 3, 0, 8, 31, 63], 0, [⟨0, 0, false, .r (.off 0 (.loc 1)), none⟩,
 ⟨1, 0, false, .r (.load false 1 (.tmp 0)), none⟩,
 ⟨3, 0, false, .r (.off 1 (.loc 1)), none⟩,
 ⟨4, 0, false, .r (.load false 1 (.tmp 3)), none⟩,
 ⟨2, 0, true, .call f0 [(.cst .nils), .tmp 1], none⟩,
 ⟨5, 0, true, .call f0 [.tmp 2, .tmp 4], none⟩,
 ⟨6, 0, false, .r (.mov (.tmp 5)), none⟩], [(2, 6)]⟩)
 .ret)), [(.tmp (.loc 2))]⟩

def c_gleberef10_In_l0 : AC := (.seq (.seq (.reg [⟨.tmp 6, .r (.mov (.loc 5)), none⟩,
 ⟨.tmp 7, .r (.mov (.loc 0)), none⟩,
 ⟨.tmp 8, .r (.len (.tmp 7)), none⟩,
 ⟨.loc 9, .r (.bin .lss (.tmp 6) (.tmp 8)), none⟩])
 (.cond (.loc 9) .skip
 (.exit 0)))
 (.seq (.block 1 (.seq (.reg [⟨.tmp 12, .r (.mov (.loc 0)), none⟩,
 ⟨.tmp 13, .r (.mov (.loc 5)), none⟩,
 ⟨.tmp 14, .r (.idx 1 (.tmp 12) (.tmp 13)), none⟩,
 ⟨.tmp 15, .r (.load false 1 (.tmp 14)), none⟩,
 ⟨.tmp 16, .r (.mov (.loc 1)), none⟩,
 ⟨.loc 17, .r (.bin .eql (.tmp 15) (.tmp 16)), none⟩])
 (.cond (.loc 17) (.seq (.reg [⟨.loc 4, .r (.mov (.cst (.bool true))), none⟩])
 .ret)
 .skip)))
 (.reg [⟨.tmp 10, .r (.mov (.loc 5)), none⟩,
 ⟨.tmp 11, .r (.bin .add (.tmp 10) (.cst (.int .i64 1))), none⟩,
 ⟨.loc 5, .r (.mov (.tmp 11)), none⟩])))
/-- glebe/gleberef10.In -/
def c_gleberef10_In : AFn := ⟨18, fun s => List.contains [0, 1, 4, 5, 9, 17] s, (.seq (.reg [⟨.loc 4, .r (.mov (.cst (.bool false))), none⟩])
 (.seq (.seq (.reg [⟨.loc 5, .r (.mov (.cst (.int .i64 0))), none⟩])
 (.block 0 (.loop (c_gleberef10_In_l0))))
 (.seq (.reg [⟨.loc 4, .r (.mov (.cst (.bool false))), none⟩])
 .ret))), [(.tmp (.loc 4))]⟩

def c_gleberef10_all_l0 (f0 : FuncId) : AC := (.seq (.seq (.reg [⟨.tmp 6, .r (.mov (.loc 5)), none⟩,
 ⟨.tmp 7, .r (.mov (.loc 1)), none⟩,
 ⟨.tmp 8, .r (.len (.tmp 7)), none⟩,
 ⟨.loc 9, .r (.bin .lss (.tmp 6) (.tmp 8)), none⟩])
 (.cond (.loc 9) .skip
 (.exit 0)))
 (.seq (.block 1 (.reg [⟨.tmp 12, .r (.mov (.loc 0)), none⟩,
 ⟨.tmp 13, .r (.mov (.loc 1)), none⟩,
 ⟨.tmp 14, .r (.mov (.loc 5)), none⟩,
 ⟨.tmp 15, .r (.idx 1 (.tmp 13) (.tmp 14)), none⟩,
 ⟨.tmp 16, .r (.load false 1 (.tmp 15)), none⟩,
 ⟨.tmp 17, .call f0 [.tmp 12, .tmp 16], none⟩,
 ⟨.loc 0, .r (.mov (.tmp 17)), none⟩]))
 (.reg [⟨.tmp 10, .r (.mov (.loc 5)), none⟩,
 ⟨.tmp 11, .r (.bin .add (.tmp 10) (.cst (.int .i64 1))), none⟩,
 ⟨.loc 5, .r (.mov (.tmp 11)), none⟩])))
/-- glebe/gleberef10.all -/
def c_gleberef10_all (f0 : FuncId) : AFn := ⟨19, fun s => List.contains [0, 1, 4, 5, 9] s, (.seq (.reg [⟨.loc 4, .r (.mov (.cst .nils)), none⟩])
 (.seq (.seq (.reg [⟨.loc 5, .r (.mov (.cst (.int .i64 0))), none⟩])
 (.block 0 (.loop (c_gleberef10_all_l0 f0))))
 (.seq (.reg [⟨.tmp 18, .r (.mov (.loc 0)), none⟩,
 ⟨.loc 4, .r (.mov (.tmp 18)), none⟩])
 .ret))), [(.tmp (.loc 4))]⟩

def c_gleberef10_With_l0 (f0 : FuncId) : AC := (.seq (.seq (.reg [⟨.tmp 11, .r (.mov (.loc 7)), none⟩,
 ⟨.tmp 12, .r (.mov (.loc 0)), none⟩,
 ⟨.tmp 13, .r (.len (.tmp 12)), none⟩,
 ⟨.loc 14, .r (.bin .lss (.tmp 11) (.tmp 13)), none⟩])
 (.cond (.loc 14) .skip
 (.exit 0)))
 (.seq (.block 1 (.seq (.seq (.reg [⟨.tmp 17, .r (.mov (.loc 6)), none⟩,
 ⟨.tmp 18, .r (.not (.tmp 17)), none⟩,
 ⟨.tmp 19, .r (.mov (.tmp 18)), none⟩,
 ⟨.tmp 20, .r (.mov (.loc 1)), some (.tmp 19, true)⟩,
 ⟨.tmp 21, .r (.mov (.loc 0)), some (.tmp 19, true)⟩,
 ⟨.tmp 22, .r (.mov (.loc 7)), some (.tmp 19, true)⟩,
 ⟨.tmp 23, .r (.idx 1 (.tmp 21) (.tmp 22)), some (.tmp 19, true)⟩,
 ⟨.tmp 24, .r (.load false 1 (.tmp 23)), some (.tmp 19, true)⟩,
 ⟨.tmp 25, .r (.bin .lss (.tmp 20) (.tmp 24)), some (.tmp 19, true)⟩,
 ⟨.loc 26, .r (.pick (.tmp 19) (.tmp 25) (.cst (.bool false))), none⟩])
 (.cond (.loc 26) (.seq (.reg [⟨.tmp 27, .r (.mov (.loc 5)), none⟩,
 ⟨.tmp 28, .r (.mov (.loc 1)), none⟩,
 ⟨.tmp 29, .h (.bsl 1 [.tmp 28]), none⟩,
 ⟨.tmp 30, .h (.app 1 8 (.tmp 27) (.tmp 29)), none⟩,
 ⟨.loc 5, .r (.mov (.tmp 30)), none⟩])
 (.reg [⟨.loc 6, .r (.mov (.cst (.bool true))), none⟩]))
 .skip))
 (.reg [⟨.tmp 31, .r (.mov (.loc 5)), none⟩,
 ⟨.tmp 32, .r (.mov (.loc 0)), none⟩,
 ⟨.tmp 33, .r (.mov (.loc 7)), none⟩,
 ⟨.tmp 34, .r (.idx 1 (.tmp 32) (.tmp 33)), none⟩,
 ⟨.tmp 35, .r (.load false 1 (.tmp 34)), none⟩,
 ⟨.tmp 36, .h (.bsl 1 [.tmp 35]), none⟩,
 ⟨.tmp 37, .h (.app 1 8 (.tmp 31) (.tmp 36)), none⟩,
 ⟨.loc 5, .r (.mov (.tmp 37)), none⟩])))
 (.reg [⟨.tmp 15, .r (.mov (.loc 7)), none⟩,
 ⟨.tmp 16, .r (.bin .add (.tmp 15) (.cst (.int .i64 1))), none⟩,
 ⟨.loc 7, .r (.mov (.tmp 16)), none⟩])))
/-- glebe/gleberef10.With -/
def c_gleberef10_With (f0 : FuncId) : AFn := ⟨45, fun s => List.contains [0, 1, 4, 5, 6, 7, 14, 26, 39] s, (.seq (.reg [⟨.loc 4, .r (.mov (.cst .nils)), none⟩])
 (.seq (.reg [⟨.loc 5, .r (.mov (.cst .nils)), none⟩])
 (.seq (.reg [⟨.tmp 8, .r (.mov (.loc 0)), none⟩,
 ⟨.tmp 9, .r (.mov (.loc 1)), none⟩,
 ⟨.tmp 10, .call f0 [.tmp 8, .tmp 9], none⟩,
 ⟨.loc 6, .r (.mov (.tmp 10)), none⟩])
 (.seq (.seq (.reg [⟨.loc 7, .r (.mov (.cst (.int .i64 0))), none⟩])
 (.block 0 (.loop (c_gleberef10_With_l0 f0))))
 (.seq (.seq (.reg [⟨.tmp 38, .r (.mov (.loc 6)), none⟩,
 ⟨.loc 39, .r (.not (.tmp 38)), none⟩])
 (.cond (.loc 39) (.reg [⟨.tmp 40, .r (.mov (.loc 5)), none⟩,
 ⟨.tmp 41, .r (.mov (.loc 1)), none⟩,
 ⟨.tmp 42, .h (.bsl 1 [.tmp 41]), none⟩,
 ⟨.tmp 43, .h (.app 1 8 (.tmp 40) (.tmp 42)), none⟩,
 ⟨.loc 5, .r (.mov (.tmp 43)), none⟩])
 .skip))
 (.seq (.reg [⟨.tmp 44, .r (.mov (.loc 5)), none⟩,
 ⟨.loc 4, .r (.mov (.tmp 44)), none⟩])
 .ret)))))), [(.tmp (.loc 4))]⟩

end Glb
