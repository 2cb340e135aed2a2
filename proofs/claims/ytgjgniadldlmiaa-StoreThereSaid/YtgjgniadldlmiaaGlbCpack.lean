/-
  What functions of the program are, one by one (the functions that they call as parameters), in a form of which something can be shown.
-/
import Derived.Test.YtgjgniadldlmiaaGlbLibB
set_option linter.unusedSimpArgs false
set_option linter.unusedVariables false
namespace Glb
open Go
set_option maxRecDepth 100000

def c_pack_number_l0 : AC := (.seq (.seq (.reg [⟨.tmp 6, .r (.mov (.loc 5)), none⟩,
 ⟨.loc 7, .r (.bin .geq (.tmp 6) (.cst (.int .i64 0))), none⟩])
 (.cond (.loc 7) .skip
 (.exit 0)))
 (.seq (.block 1 (.reg [⟨.tmp 10, .r (.mov (.loc 0)), none⟩,
 ⟨.tmp 11, .r (.mov (.loc 1)), none⟩,
 ⟨.tmp 12, .r (.conv .u64 (.tmp 11)), none⟩,
 ⟨.tmp 13, .r (.mov (.loc 5)), none⟩,
 ⟨.tmp 14, .r (.bin .mul (.cst (.int .i64 8)) (.tmp 13)), none⟩,
 ⟨.tmp 15, .r (.bin .shr (.tmp 12) (.tmp 14)), none⟩,
 ⟨.tmp 16, .r (.conv .u8 (.tmp 15)), none⟩,
 ⟨.tmp 17, .h (.bsl 1 [.tmp 16]), none⟩,
 ⟨.tmp 18, .h (.app 1 1 (.tmp 10) (.tmp 17)), none⟩,
 ⟨.loc 0, .r (.mov (.tmp 18)), none⟩]))
 (.reg [⟨.tmp 8, .r (.mov (.loc 5)), none⟩,
 ⟨.tmp 9, .r (.bin .sub (.tmp 8) (.cst (.int .i64 1))), none⟩,
 ⟨.loc 5, .r (.mov (.tmp 9)), none⟩])))
/-- glebe/pack.number -/
def c_pack_number : AFn := ⟨20, fun s => List.contains [0, 1, 4, 5, 7] s, (.seq (.reg [⟨.loc 4, .r (.mov (.cst .nils)), none⟩])
 (.seq (.seq (.reg [⟨.loc 5, .r (.mov (.cst (.int .i64 7))), none⟩])
 (.block 0 (.loop (c_pack_number_l0))))
 (.seq (.reg [⟨.tmp 19, .r (.mov (.loc 0)), none⟩,
 ⟨.loc 4, .r (.mov (.tmp 19)), none⟩])
 .ret))), [(.tmp (.loc 4))]⟩

/-- glebe/pack.room -/
def c_pack_room : AFn := ⟨12, fun s => List.contains [0, 1, 4] s, (.seq (.reg [⟨.loc 4, .r (.mov (.cst .nils)), none⟩])
 (.seq (.reg [⟨.tmp 5, .r (.mov (.loc 0)), none⟩,
 ⟨.tmp 6, .r (.len (.tmp 5)), none⟩,
 ⟨.tmp 7, .r (.mov (.loc 1)), none⟩,
 ⟨.tmp 8, .r (.bin .add (.tmp 6) (.tmp 7)), none⟩,
 ⟨.tmp 9, .h (.mks 1 1 [(.int .u8 0)] (.cst (.int .i64 0)) (.tmp 8)), none⟩,
 ⟨.tmp 10, .r (.mov (.loc 0)), none⟩,
 ⟨.tmp 11, .h (.app 1 1 (.tmp 9) (.tmp 10)), none⟩,
 ⟨.loc 4, .r (.mov (.tmp 11)), none⟩])
 .ret)), [(.tmp (.loc 4))]⟩

end Glb
