/-
  What functions of the program are, one by one (the functions that they call as parameters), in a form of which something can be shown.
-/
import Derived.Test.YtodbhmdfmdfiaaaGlbLibB
set_option linter.unusedSimpArgs false
set_option linter.unusedVariables false
namespace Glb
open Go
set_option maxRecDepth 100000

/-- glebe/quorum.Voters -/
def c_quorum_Voters (f0 : FuncId) : AFn := ⟨9, fun s => List.contains [0, 1, 2] s, (.seq (.reg [⟨.loc 1, .h (.box (.loc 0)), none⟩,
 ⟨.loc 2, .r (.mov (.cst .nils)), none⟩])
 (.seq (.reg [⟨.tmp 3, .r (.off 0 (.loc 1)), none⟩,
 ⟨.tmp 4, .r (.load false 1 (.tmp 3)), none⟩,
 ⟨.tmp 5, .r (.off 1 (.loc 1)), none⟩,
 ⟨.tmp 6, .r (.load false 1 (.tmp 5)), none⟩,
 ⟨.tmp 7, .h (.bsl 1 [.tmp 4, .tmp 6]), none⟩,
 ⟨.tmp 8, .call f0 [.tmp 7], none⟩,
 ⟨.loc 2, .r (.mov (.tmp 8)), none⟩])
 .ret)), [(.tmp (.loc 2))]⟩

/-- glebe/quorum.united -/
def c_quorum_united (f0 f1 f2 : FuncId) : AFn := ⟨10, fun s => List.contains [0, 2, 3] s, (.seq (.reg [⟨.loc 2, .r (.mov (.cst .nils)), none⟩])
 (.seq (.reg [⟨.tmp 4, .r (.mov (.loc 0)), none⟩,
 ⟨.tmp 5, .call f0 [.tmp 4], none⟩,
 ⟨.loc 3, .r (.mov (.tmp 5)), none⟩])
 (.seq (.reg [⟨.tmp 6, .r (.mov (.loc 3)), none⟩,
 ⟨.tmp 7, .call f1 [.tmp 6], none⟩])
 (.seq (.reg [⟨.tmp 8, .r (.mov (.loc 3)), none⟩,
 ⟨.tmp 9, .call f2 [.tmp 8], none⟩,
 ⟨.loc 2, .r (.mov (.tmp 9)), none⟩])
 .ret)))), [(.tmp (.loc 2))]⟩

def c_slices_Concat_int_int_l0 (f0 : FuncId) : AC := (.seq (.reg [⟨.loc 12, .r (.bin .lss (.loc 11) (.loc 10)), none⟩])
 (.seq (.cond (.loc 12) .skip
 (.exit 0))
 (.seq (.block 1 (.seq (.reg [⟨.tmp 13, .r (.idx 1 (.loc 9) (.loc 11)), none⟩,
 ⟨.tmp 14, .r (.load false 1 (.tmp 13)), none⟩,
 ⟨.loc 5, .r (.mov (.tmp 14)), none⟩])
 (.seq (.reg [⟨.tmp 15, .r (.mov (.loc 3)), none⟩,
 ⟨.tmp 16, .r (.mov (.loc 5)), none⟩,
 ⟨.tmp 17, .r (.len (.tmp 16)), none⟩,
 ⟨.tmp 18, .r (.bin .add (.tmp 15) (.tmp 17)), none⟩,
 ⟨.loc 3, .r (.mov (.tmp 18)), none⟩])
 (.seq (.reg [⟨.tmp 19, .r (.mov (.loc 3)), none⟩,
 ⟨.loc 20, .r (.bin .lss (.tmp 19) (.cst (.int .i64 0))), none⟩])
 (.cond (.loc 20) (.reg [⟨.tmp 21, .r (.x (.bad)), none⟩,
 ⟨.none, .r (.x (.bad)), none⟩])
 .skip)))))
 (.reg [⟨.tmp 22, .r (.bin .add (.loc 11) (.cst (.int .i64 1))), none⟩,
 ⟨.loc 11, .r (.mov (.tmp 22)), none⟩]))))
def c_slices_Concat_int_int_l1 (f0 : FuncId) : AC := (.seq (.reg [⟨.loc 28, .r (.bin .lss (.loc 27) (.loc 26)), none⟩])
 (.seq (.cond (.loc 28) .skip
 (.exit 2))
 (.seq (.block 3 (.seq (.reg [⟨.tmp 29, .r (.idx 1 (.loc 25) (.loc 27)), none⟩,
 ⟨.tmp 30, .r (.load false 1 (.tmp 29)), none⟩,
 ⟨.loc 8, .r (.mov (.tmp 30)), none⟩])
 (.reg [⟨.tmp 31, .r (.mov (.loc 6)), none⟩,
 ⟨.tmp 32, .r (.mov (.loc 8)), none⟩,
 ⟨.tmp 33, .h (.app 1 8 (.tmp 31) (.tmp 32)), none⟩,
 ⟨.loc 6, .r (.mov (.tmp 33)), none⟩])))
 (.reg [⟨.tmp 34, .r (.bin .add (.loc 27) (.cst (.int .i64 1))), none⟩,
 ⟨.loc 27, .r (.mov (.tmp 34)), none⟩]))))
/-- slices.Concat[[]int,int] -/
def c_slices_Concat_int_int (f0 : FuncId) : AFn := ⟨36, fun s => List.contains [0, 2, 3, 5, 6, 8, 9, 10, 11, 12, 20, 25, 26, 27, 28] s, (.seq (.reg [⟨.loc 2, .r (.mov (.cst .nils)), none⟩])
 (.seq (.reg [⟨.loc 3, .r (.mov (.cst (.int .i64 0))), none⟩])
 (.seq (.seq (.reg [⟨.loc 9, .r (.mov (.loc 0)), none⟩,
 ⟨.loc 10, .r (.len (.loc 9)), none⟩,
 ⟨.loc 11, .r (.mov (.cst (.int .i64 0))), none⟩])
 (.block 0 (.loop (c_slices_Concat_int_int_l0 f0))))
 (.seq (.reg [⟨.tmp 23, .r (.mov (.loc 3)), none⟩,
 ⟨.tmp 24, .call f0 [(.cst .nils), .tmp 23], none⟩,
 ⟨.loc 6, .r (.mov (.tmp 24)), none⟩])
 (.seq (.seq (.reg [⟨.loc 25, .r (.mov (.loc 0)), none⟩,
 ⟨.loc 26, .r (.len (.loc 25)), none⟩,
 ⟨.loc 27, .r (.mov (.cst (.int .i64 0))), none⟩])
 (.block 2 (.loop (c_slices_Concat_int_int_l1 f0))))
 (.seq (.reg [⟨.tmp 35, .r (.mov (.loc 6)), none⟩,
 ⟨.loc 2, .r (.mov (.tmp 35)), none⟩])
 .ret)))))), [(.tmp (.loc 2))]⟩

def c_slices_Compact_int_int_l0 : AC := (.seq (.seq (.reg [⟨.tmp 29, .r (.mov (.loc 5)), none⟩,
 ⟨.tmp 30, .r (.mov (.loc 4)), none⟩,
 ⟨.tmp 31, .r (.len (.tmp 30)), none⟩,
 ⟨.loc 32, .r (.bin .lss (.tmp 29) (.tmp 31)), none⟩])
 (.cond (.loc 32) .skip
 (.exit 2)))
 (.seq (.block 3 (.seq (.dreg ⟨[0, 0, 3, 7, 0, 0, 32, 112, 240, 511], 0, [⟨0, 0, false, .r (.mov (.loc 4)), none⟩,
 ⟨1, 0, false, .r (.mov (.loc 5)), none⟩,
 ⟨2, 0, false, .r (.idx 1 (.tmp 0) (.tmp 1)), none⟩,
 ⟨3, 0, false, .r (.load false 1 (.tmp 2)), none⟩,
 ⟨4, 0, false, .r (.mov (.loc 4)), none⟩,
 ⟨5, 0, false, .r (.mov (.loc 5)), none⟩,
 ⟨6, 0, false, .r (.bin .sub (.tmp 5) (.cst (.int .i64 1))), none⟩,
 ⟨7, 0, false, .r (.idx 1 (.tmp 4) (.tmp 6)), none⟩,
 ⟨8, 0, false, .r (.load false 1 (.tmp 7)), none⟩,
 ⟨9, 0, false, .r (.bin .neq (.tmp 3) (.tmp 8)), none⟩], [(44, 9)]⟩)
 (.cond (.loc 44) (.seq (.reg [⟨.tmp 45, .r (.mov (.loc 0)), none⟩,
 ⟨.tmp 46, .r (.mov (.loc 3)), none⟩,
 ⟨.tmp 47, .r (.mov (.loc 4)), none⟩,
 ⟨.tmp 48, .r (.mov (.loc 5)), none⟩,
 ⟨.tmp 49, .r (.idx 1 (.tmp 47) (.tmp 48)), none⟩,
 ⟨.tmp 50, .r (.load false 1 (.tmp 49)), none⟩,
 ⟨.tmp 51, .r (.idx 1 (.tmp 45) (.tmp 46)), none⟩,
 ⟨.none, .h (.store 1 (.tmp 51) (.tmp 50)), none⟩])
 (.reg [⟨.tmp 52, .r (.mov (.loc 3)), none⟩,
 ⟨.tmp 53, .r (.bin .add (.tmp 52) (.cst (.int .i64 1))), none⟩,
 ⟨.loc 3, .r (.mov (.tmp 53)), none⟩]))
 .skip)))
 (.reg [⟨.tmp 33, .r (.mov (.loc 5)), none⟩,
 ⟨.tmp 34, .r (.bin .add (.tmp 33) (.cst (.int .i64 1))), none⟩,
 ⟨.loc 5, .r (.mov (.tmp 34)), none⟩])))
def c_slices_Compact_int_int_l1 : AC := (.seq (.seq (.reg [⟨.tmp 10, .r (.mov (.loc 3)), none⟩,
 ⟨.tmp 11, .r (.mov (.loc 0)), none⟩,
 ⟨.tmp 12, .r (.len (.tmp 11)), none⟩,
 ⟨.loc 13, .r (.bin .lss (.tmp 10) (.tmp 12)), none⟩])
 (.cond (.loc 13) .skip
 (.exit 0)))
 (.seq (.block 1 (.seq (.dreg ⟨[0, 0, 3, 7, 0, 0, 32, 112, 240, 511], 0, [⟨0, 0, false, .r (.mov (.loc 0)), none⟩,
 ⟨1, 0, false, .r (.mov (.loc 3)), none⟩,
 ⟨2, 0, false, .r (.idx 1 (.tmp 0) (.tmp 1)), none⟩,
 ⟨3, 0, false, .r (.load false 1 (.tmp 2)), none⟩,
 ⟨4, 0, false, .r (.mov (.loc 0)), none⟩,
 ⟨5, 0, false, .r (.mov (.loc 3)), none⟩,
 ⟨6, 0, false, .r (.bin .sub (.tmp 5) (.cst (.int .i64 1))), none⟩,
 ⟨7, 0, false, .r (.idx 1 (.tmp 4) (.tmp 6)), none⟩,
 ⟨8, 0, false, .r (.load false 1 (.tmp 7)), none⟩,
 ⟨9, 0, false, .r (.bin .eql (.tmp 3) (.tmp 8)), none⟩], [(25, 9)]⟩)
 (.cond (.loc 25) (.seq (.reg [⟨.tmp 26, .r (.mov (.loc 0)), none⟩,
 ⟨.tmp 27, .r (.mov (.loc 3)), none⟩,
 ⟨.tmp 28, .r (.slc 1 (.tmp 26) (some (.tmp 27)) none none), none⟩,
 ⟨.loc 4, .r (.mov (.tmp 28)), none⟩])
 (.seq (.seq (.reg [⟨.loc 5, .r (.mov (.cst (.int .i64 1))), none⟩])
 (.block 2 (.loop (c_slices_Compact_int_int_l0))))
 (.seq (.reg [⟨.tmp 54, .r (.mov (.loc 0)), none⟩,
 ⟨.tmp 55, .r (.mov (.loc 3)), none⟩,
 ⟨.tmp 56, .r (.slc 1 (.tmp 54) (some (.tmp 55)) none none), none⟩,
 ⟨.none, .h (.clr 1 [(.int .i64 0)] (.tmp 56)), none⟩])
 (.seq (.reg [⟨.tmp 57, .r (.mov (.loc 0)), none⟩,
 ⟨.tmp 58, .r (.mov (.loc 3)), none⟩,
 ⟨.tmp 59, .r (.slc 1 (.tmp 57) none (some (.tmp 58)) none), none⟩,
 ⟨.loc 2, .r (.mov (.tmp 59)), none⟩])
 .ret))))
 .skip)))
 (.reg [⟨.tmp 14, .r (.mov (.loc 3)), none⟩,
 ⟨.tmp 15, .r (.bin .add (.tmp 14) (.cst (.int .i64 1))), none⟩,
 ⟨.loc 3, .r (.mov (.tmp 15)), none⟩])))
/-- slices.Compact[[]int,int] -/
def c_slices_Compact_int_int : AFn := ⟨61, fun s => List.contains [0, 2, 3, 4, 5, 8, 13, 25, 32, 44] s, (.seq (.reg [⟨.loc 2, .r (.mov (.cst .nils)), none⟩])
 (.seq (.seq (.reg [⟨.tmp 6, .r (.mov (.loc 0)), none⟩,
 ⟨.tmp 7, .r (.len (.tmp 6)), none⟩,
 ⟨.loc 8, .r (.bin .lss (.tmp 7) (.cst (.int .i64 2))), none⟩])
 (.cond (.loc 8) (.seq (.reg [⟨.tmp 9, .r (.mov (.loc 0)), none⟩,
 ⟨.loc 2, .r (.mov (.tmp 9)), none⟩])
 .ret)
 .skip))
 (.seq (.seq (.reg [⟨.loc 3, .r (.mov (.cst (.int .i64 1))), none⟩])
 (.block 0 (.loop (c_slices_Compact_int_int_l1))))
 (.seq (.reg [⟨.tmp 60, .r (.mov (.loc 0)), none⟩,
 ⟨.loc 2, .r (.mov (.tmp 60)), none⟩])
 .ret)))), [(.tmp (.loc 2))]⟩

/-- slices.Grow[[]int,int] -/
def c_slices_Grow_int_int : AFn := ⟨27, fun s => List.contains [0, 1, 4, 6, 16] s, (.seq (.reg [⟨.loc 4, .r (.mov (.cst .nils)), none⟩])
 (.seq (.seq (.reg [⟨.tmp 5, .r (.mov (.loc 1)), none⟩,
 ⟨.loc 6, .r (.bin .lss (.tmp 5) (.cst (.int .i64 0))), none⟩])
 (.cond (.loc 6) (.reg [⟨.tmp 7, .r (.x (.bad)), none⟩,
 ⟨.none, .r (.x (.bad)), none⟩])
 .skip))
 (.seq (.seq (.reg [⟨.tmp 8, .r (.mov (.loc 1)), none⟩,
 ⟨.tmp 9, .r (.mov (.loc 0)), none⟩,
 ⟨.tmp 10, .r (.x (.cap (.tmp 9))), none⟩,
 ⟨.tmp 11, .r (.mov (.loc 0)), none⟩,
 ⟨.tmp 12, .r (.len (.tmp 11)), none⟩,
 ⟨.tmp 13, .r (.bin .sub (.tmp 10) (.tmp 12)), none⟩,
 ⟨.tmp 14, .r (.bin .sub (.tmp 8) (.tmp 13)), none⟩,
 ⟨.loc 1, .r (.mov (.tmp 14)), none⟩])
 (.seq (.reg [⟨.tmp 15, .r (.mov (.loc 1)), none⟩,
 ⟨.loc 16, .r (.bin .gtr (.tmp 15) (.cst (.int .i64 0))), none⟩])
 (.cond (.loc 16) (.reg [⟨.tmp 17, .r (.mov (.loc 0)), none⟩,
 ⟨.tmp 18, .r (.mov (.loc 0)), none⟩,
 ⟨.tmp 19, .r (.x (.cap (.tmp 18))), none⟩,
 ⟨.tmp 20, .r (.slc 1 (.tmp 17) none (some (.tmp 19)) none), none⟩,
 ⟨.tmp 21, .r (.mov (.loc 1)), none⟩,
 ⟨.tmp 22, .h (.appz 1 8 [(.int .i64 0)] (.tmp 20) (.tmp 21)), none⟩,
 ⟨.tmp 23, .r (.mov (.loc 0)), none⟩,
 ⟨.tmp 24, .r (.len (.tmp 23)), none⟩,
 ⟨.tmp 25, .r (.slc 1 (.tmp 22) none (some (.tmp 24)) none), none⟩,
 ⟨.loc 0, .r (.mov (.tmp 25)), none⟩])
 .skip)))
 (.seq (.reg [⟨.tmp 26, .r (.mov (.loc 0)), none⟩,
 ⟨.loc 4, .r (.mov (.tmp 26)), none⟩])
 .ret)))), [(.tmp (.loc 4))]⟩

end Glb
