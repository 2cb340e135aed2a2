/-
  What functions of the program are, one by one (the functions that they call as parameters), in a form of which something can be shown.
-/
import Derived.Test.YtodbhmdfmdfiaaaGlbLibB
set_option linter.unusedSimpArgs false
set_option linter.unusedVariables false
namespace Glb
open Go
set_option maxRecDepth 100000

/-- glebe/rlog.Last -/
def c_rlog_Last : AFn := ⟨25, fun s => List.contains [0, 1, 2, 3, 4, 9] s, (.seq (.reg [⟨.loc 1, .h (.box (.loc 0)), none⟩,
 ⟨.loc 2, .r (.mov (.cst (.int .i64 0))), none⟩,
 ⟨.loc 3, .r (.mov (.cst (.int .i64 0))), none⟩])
 (.seq (.seq (.reg [⟨.tmp 5, .r (.off 2 (.loc 1)), none⟩,
 ⟨.tmp 6, .r (.load false 1 (.tmp 5)), none⟩,
 ⟨.tmp 7, .r (.len (.tmp 6)), none⟩,
 ⟨.loc 4, .r (.mov (.tmp 7)), none⟩])
 (.seq (.reg [⟨.tmp 8, .r (.mov (.loc 4)), none⟩,
 ⟨.loc 9, .r (.bin .gtr (.tmp 8) (.cst (.int .i64 0))), none⟩])
 (.cond (.loc 9) (.seq (.dreg ⟨[0, 1, 0, 7, 0, 16, 0, 64, 240, 496, 1008, 15, 4095], 0, [⟨0, 0, false, .r (.off 0 (.loc 1)), none⟩,
 ⟨1, 0, false, .r (.load false 1 (.tmp 0)), none⟩,
 ⟨2, 0, false, .r (.mov (.loc 4)), none⟩,
 ⟨3, 0, false, .r (.bin .add (.tmp 1) (.tmp 2)), none⟩,
 ⟨4, 0, false, .r (.off 2 (.loc 1)), none⟩,
 ⟨5, 0, false, .r (.load false 1 (.tmp 4)), none⟩,
 ⟨6, 0, false, .r (.mov (.loc 4)), none⟩,
 ⟨7, 0, false, .r (.bin .sub (.tmp 6) (.cst (.int .i64 1))), none⟩,
 ⟨8, 0, false, .r (.idx 3 (.tmp 5) (.tmp 7)), none⟩,
 ⟨9, 0, false, .r (.off 0 (.tmp 8)), none⟩,
 ⟨10, 0, false, .r (.load false 1 (.tmp 9)), none⟩,
 ⟨11, 0, false, .r (.mov (.tmp 3)), none⟩,
 ⟨12, 0, false, .r (.mov (.tmp 10)), none⟩], [(2, 11), (3, 12)]⟩)
 .ret)
 .skip)))
 (.seq (.dreg ⟨[0, 1, 0, 4, 3, 31], 0, [⟨0, 0, false, .r (.off 0 (.loc 1)), none⟩,
 ⟨1, 0, false, .r (.load false 1 (.tmp 0)), none⟩,
 ⟨2, 0, false, .r (.off 1 (.loc 1)), none⟩,
 ⟨3, 0, false, .r (.load false 1 (.tmp 2)), none⟩,
 ⟨4, 0, false, .r (.mov (.tmp 1)), none⟩,
 ⟨5, 0, false, .r (.mov (.tmp 3)), none⟩], [(2, 4), (3, 5)]⟩)
 .ret))), [(.tmp (.loc 2)), (.tmp (.loc 3))]⟩

/-- glebe/rlog.Newer -/
def c_rlog_Newer (f0 : FuncId) : AFn := ⟨23, fun s => List.contains [0, 1, 2, 3, 6, 7, 8, 16] s, (.seq (.reg [⟨.loc 3, .h (.box (.loc 0)), none⟩,
 ⟨.loc 6, .r (.mov (.cst (.bool false))), none⟩])
 (.seq (.reg [⟨.tmp 10, .r (.load true 3 (.loc 3)), none⟩,
 ⟨.tmp 11, .call f0 [.tmp 10], none⟩,
 ⟨.tmp 9, .r (.mov (.tmp 11)), none⟩,
 ⟨.tmp 12, .r (.ext (.tmp 9) 0), none⟩,
 ⟨.tmp 13, .r (.ext (.tmp 9) 1), none⟩,
 ⟨.loc 7, .r (.mov (.tmp 12)), none⟩,
 ⟨.loc 8, .r (.mov (.tmp 13)), none⟩])
 (.seq (.seq (.reg [⟨.tmp 14, .r (.mov (.loc 2)), none⟩,
 ⟨.tmp 15, .r (.mov (.loc 8)), none⟩,
 ⟨.loc 16, .r (.bin .neq (.tmp 14) (.tmp 15)), none⟩])
 (.cond (.loc 16) (.seq (.reg [⟨.tmp 17, .r (.mov (.loc 2)), none⟩,
 ⟨.tmp 18, .r (.mov (.loc 8)), none⟩,
 ⟨.tmp 19, .r (.bin .gtr (.tmp 17) (.tmp 18)), none⟩,
 ⟨.loc 6, .r (.mov (.tmp 19)), none⟩])
 .ret)
 .skip))
 (.seq (.reg [⟨.tmp 20, .r (.mov (.loc 1)), none⟩,
 ⟨.tmp 21, .r (.mov (.loc 7)), none⟩,
 ⟨.tmp 22, .r (.bin .geq (.tmp 20) (.tmp 21)), none⟩,
 ⟨.loc 6, .r (.mov (.tmp 22)), none⟩])
 .ret)))), [(.tmp (.loc 6))]⟩

end Glb
