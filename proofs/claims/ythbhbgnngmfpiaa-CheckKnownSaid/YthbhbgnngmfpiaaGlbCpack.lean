/-
  What functions of the program are, one by one (the functions that they call as parameters), in a form of which something can be shown.
-/
import Derived.Test.YthbhbgnngmfpiaaGlbLibB
set_option linter.unusedSimpArgs false
set_option linter.unusedVariables false
namespace Glb
open Go
set_option maxRecDepth 100000

def c_pack_number_l0 : AC := (.seq (.seq (.reg [⟨.tmp 6, .r (.mov (.loc 5)), none⟩,
 ⟨.loc 7, .r (.bin .geq (.tmp 6) (.cst (.int .i64 0))), none⟩])
 (.cond (.loc 7) .skip
 (.exit 0)))
 (.seq (.block 1 (.reg [⟨.tmp 10, .r (.mov (.loc 0)), none⟩,
 ⟨.tmp 11, .r (.mov (.loc 1)), none⟩,
 ⟨.tmp 12, .r (.conv .u64 (.tmp 11)), none⟩,
 ⟨.tmp 13, .r (.mov (.loc 5)), none⟩,
 ⟨.tmp 14, .r (.bin .mul (.cst (.int .i64 8)) (.tmp 13)), none⟩,
 ⟨.tmp 15, .r (.bin .shr (.tmp 12) (.tmp 14)), none⟩,
 ⟨.tmp 16, .r (.conv .u8 (.tmp 15)), none⟩,
 ⟨.tmp 17, .h (.bsl 1 [.tmp 16]), none⟩,
 ⟨.tmp 18, .h (.app 1 1 (.tmp 10) (.tmp 17)), none⟩,
 ⟨.loc 0, .r (.mov (.tmp 18)), none⟩]))
 (.reg [⟨.tmp 8, .r (.mov (.loc 5)), none⟩,
 ⟨.tmp 9, .r (.bin .sub (.tmp 8) (.cst (.int .i64 1))), none⟩,
 ⟨.loc 5, .r (.mov (.tmp 9)), none⟩])))
/-- glebe/pack.number -/
def c_pack_number : AFn := ⟨20, fun s => List.contains [0, 1, 4, 5, 7] s, (.seq (.reg [⟨.loc 4, .r (.mov (.cst .nils)), none⟩])
 (.seq (.seq (.reg [⟨.loc 5, .r (.mov (.cst (.int .i64 7))), none⟩])
 (.block 0 (.loop (c_pack_number_l0))))
 (.seq (.reg [⟨.tmp 19, .r (.mov (.loc 0)), none⟩,
 ⟨.loc 4, .r (.mov (.tmp 19)), none⟩])
 .ret))), [(.tmp (.loc 4))]⟩

/-- glebe/pack.room -/
def c_pack_room : AFn := ⟨12, fun s => List.contains [0, 1, 4] s, (.seq (.reg [⟨.loc 4, .r (.mov (.cst .nils)), none⟩])
 (.seq (.reg [⟨.tmp 5, .r (.mov (.loc 0)), none⟩,
 ⟨.tmp 6, .r (.len (.tmp 5)), none⟩,
 ⟨.tmp 7, .r (.mov (.loc 1)), none⟩,
 ⟨.tmp 8, .r (.bin .add (.tmp 6) (.tmp 7)), none⟩,
 ⟨.tmp 9, .h (.mks 1 1 [(.int .u8 0)] (.cst (.int .i64 0)) (.tmp 8)), none⟩,
 ⟨.tmp 10, .r (.mov (.loc 0)), none⟩,
 ⟨.tmp 11, .h (.app 1 1 (.tmp 9) (.tmp 10)), none⟩,
 ⟨.loc 4, .r (.mov (.tmp 11)), none⟩])
 .ret)), [(.tmp (.loc 4))]⟩

def c_gleberef02_Int_l0 : AC := (.seq (.seq (.reg [⟨.tmp 13, .r (.mov (.loc 7)), none⟩,
 ⟨.loc 14, .r (.bin .lss (.tmp 13) (.cst (.int .i64 8))), none⟩])
 (.cond (.loc 14) .skip
 (.exit 0)))
 (.seq (.block 1 (.seq (.reg [⟨.tmp 17, .r (.mov (.loc 5)), none⟩,
 ⟨.tmp 18, .r (.mov (.loc 6)), none⟩,
 ⟨.tmp 19, .r (.bin .rem (.tmp 18) (.cst (.int .u64 256))), none⟩,
 ⟨.tmp 20, .r (.conv .u8 (.tmp 19)), none⟩,
 ⟨.tmp 21, .h (.bsl 1 [.tmp 20]), none⟩,
 ⟨.tmp 22, .h (.app 1 1 (.tmp 17) (.tmp 21)), none⟩,
 ⟨.loc 5, .r (.mov (.tmp 22)), none⟩])
 (.reg [⟨.tmp 23, .r (.mov (.loc 6)), none⟩,
 ⟨.tmp 24, .r (.bin .quo (.tmp 23) (.cst (.int .u64 256))), none⟩,
 ⟨.loc 6, .r (.mov (.tmp 24)), none⟩])))
 (.reg [⟨.tmp 15, .r (.mov (.loc 7)), none⟩,
 ⟨.tmp 16, .r (.bin .add (.tmp 15) (.cst (.int .i64 1))), none⟩,
 ⟨.loc 7, .r (.mov (.tmp 16)), none⟩])))
def c_gleberef02_Int_l1 : AC := (.seq (.seq (.reg [⟨.tmp 25, .r (.mov (.loc 9)), none⟩,
 ⟨.tmp 26, .r (.mov (.loc 0)), none⟩,
 ⟨.tmp 27, .r (.len (.tmp 26)), none⟩,
 ⟨.loc 28, .r (.bin .lss (.tmp 25) (.tmp 27)), none⟩])
 (.cond (.loc 28) .skip
 (.exit 2)))
 (.seq (.block 3 (.reg [⟨.tmp 31, .r (.mov (.loc 8)), none⟩,
 ⟨.tmp 32, .r (.mov (.loc 0)), none⟩,
 ⟨.tmp 33, .r (.mov (.loc 9)), none⟩,
 ⟨.tmp 34, .r (.idx 1 (.tmp 32) (.tmp 33)), none⟩,
 ⟨.tmp 35, .r (.load false 1 (.tmp 34)), none⟩,
 ⟨.tmp 36, .h (.bsl 1 [.tmp 35]), none⟩,
 ⟨.tmp 37, .h (.app 1 1 (.tmp 31) (.tmp 36)), none⟩,
 ⟨.loc 8, .r (.mov (.tmp 37)), none⟩]))
 (.reg [⟨.tmp 29, .r (.mov (.loc 9)), none⟩,
 ⟨.tmp 30, .r (.bin .add (.tmp 29) (.cst (.int .i64 1))), none⟩,
 ⟨.loc 9, .r (.mov (.tmp 30)), none⟩])))
def c_gleberef02_Int_l2 : AC := (.seq (.seq (.reg [⟨.tmp 38, .r (.mov (.loc 10)), none⟩,
 ⟨.loc 39, .r (.bin .geq (.tmp 38) (.cst (.int .i64 0))), none⟩])
 (.cond (.loc 39) .skip
 (.exit 4)))
 (.seq (.block 5 (.reg [⟨.tmp 42, .r (.mov (.loc 8)), none⟩,
 ⟨.tmp 43, .r (.mov (.loc 5)), none⟩,
 ⟨.tmp 44, .r (.mov (.loc 10)), none⟩,
 ⟨.tmp 45, .r (.idx 1 (.tmp 43) (.tmp 44)), none⟩,
 ⟨.tmp 46, .r (.load false 1 (.tmp 45)), none⟩,
 ⟨.tmp 47, .h (.bsl 1 [.tmp 46]), none⟩,
 ⟨.tmp 48, .h (.app 1 1 (.tmp 42) (.tmp 47)), none⟩,
 ⟨.loc 8, .r (.mov (.tmp 48)), none⟩]))
 (.reg [⟨.tmp 40, .r (.mov (.loc 10)), none⟩,
 ⟨.tmp 41, .r (.bin .sub (.tmp 40) (.cst (.int .i64 1))), none⟩,
 ⟨.loc 10, .r (.mov (.tmp 41)), none⟩])))
/-- glebe/gleberef02.Int -/
def c_gleberef02_Int : AFn := ⟨50, fun s => List.contains [0, 1, 4, 5, 6, 7, 8, 9, 10, 14, 28, 39] s, (.seq (.reg [⟨.loc 4, .r (.mov (.cst .nils)), none⟩])
 (.seq (.reg [⟨.loc 5, .r (.mov (.cst .nils)), none⟩])
 (.seq (.reg [⟨.tmp 11, .r (.mov (.loc 1)), none⟩,
 ⟨.tmp 12, .r (.conv .u64 (.tmp 11)), none⟩,
 ⟨.loc 6, .r (.mov (.tmp 12)), none⟩])
 (.seq (.seq (.reg [⟨.loc 7, .r (.mov (.cst (.int .i64 0))), none⟩])
 (.block 0 (.loop (c_gleberef02_Int_l0))))
 (.seq (.reg [⟨.loc 8, .r (.mov (.cst .nils)), none⟩])
 (.seq (.seq (.reg [⟨.loc 9, .r (.mov (.cst (.int .i64 0))), none⟩])
 (.block 2 (.loop (c_gleberef02_Int_l1))))
 (.seq (.seq (.reg [⟨.loc 10, .r (.mov (.cst (.int .i64 7))), none⟩])
 (.block 4 (.loop (c_gleberef02_Int_l2))))
 (.seq (.reg [⟨.tmp 49, .r (.mov (.loc 8)), none⟩,
 ⟨.loc 4, .r (.mov (.tmp 49)), none⟩])
 .ret)))))))), [(.tmp (.loc 4))]⟩

end Glb
