/-
  What functions of the program are, one by one (the functions that they call as parameters), in a form of which something can be shown.
-/
import Derived.Test.YtcegihlhpmdbnaaGreatGlbLibB
set_option linter.unusedSimpArgs false
set_option linter.unusedVariables false
namespace Glb
open Go
set_option maxRecDepth 100000

/-- glebe/gleberef13.getConf -/
def c_gleberef13_getConf (f0 : FuncId) : AFn := ⟨14, fun s => List.contains [0, 2, 3] s, (.seq (.reg [⟨.loc 2, .h (.mk [.nils, .nils, .nils]), none⟩])
 (.seq (.reg [⟨.tmp 4, .r (.mov (.loc 0)), none⟩,
 ⟨.tmp 5, .call f0 [.tmp 4], none⟩,
 ⟨.tmp 6, .r (.build [.nils, .nils, .nils] [(0, 1, .tmp 5)]), none⟩,
 ⟨.loc 3, .h (.mk [.nils, .nils, .nils]), none⟩,
 ⟨.none, .h (.store 3 (.loc 3) (.tmp 6)), none⟩])
 (.seq (.reg [⟨.tmp 7, .r (.mov (.loc 0)), none⟩,
 ⟨.tmp 8, .call f0 [.tmp 7], none⟩,
 ⟨.tmp 9, .r (.off 1 (.loc 3)), none⟩,
 ⟨.none, .h (.store 1 (.tmp 9) (.tmp 8)), none⟩])
 (.seq (.reg [⟨.tmp 10, .r (.mov (.loc 0)), none⟩,
 ⟨.tmp 11, .call f0 [.tmp 10], none⟩,
 ⟨.tmp 12, .r (.off 2 (.loc 3)), none⟩,
 ⟨.none, .h (.store 1 (.tmp 12) (.tmp 11)), none⟩])
 (.seq (.reg [⟨.tmp 13, .r (.load true 3 (.loc 3)), none⟩,
 ⟨.none, .h (.store 3 (.loc 2) (.tmp 13)), none⟩])
 .ret))))), [(.cell (.loc 2) true 3)]⟩

/-- glebe/gleberef13.GetConf -/
def c_gleberef13_GetConf (f0 f1 f2 f3 : FuncId) : AFn := ⟨25, fun s => List.contains [0, 2, 3, 4, 5, 6, 7, 15, 21] s, (.seq (.reg [⟨.loc 2, .h (.mk [.nils, .nils, .nils]), none⟩,
 ⟨.loc 3, .r (.mov (.cst (.int .i64 0))), none⟩])
 (.seq (.reg [⟨.tmp 8, .r (.mov (.loc 0)), none⟩,
 ⟨.tmp 9, .call f0 [.tmp 8], none⟩,
 ⟨.loc 4, .r (.mov (.tmp 9)), none⟩])
 (.seq (.reg [⟨.tmp 10, .r (.mov (.loc 4)), none⟩,
 ⟨.tmp 11, .call f1 [.tmp 10], none⟩,
 ⟨.loc 5, .h (.mk [.nils, .nils, .nils]), none⟩,
 ⟨.none, .h (.store 3 (.loc 5) (.tmp 11)), none⟩])
 (.seq (.reg [⟨.tmp 12, .r (.mov (.loc 4)), none⟩,
 ⟨.tmp 13, .call f2 [.tmp 12], none⟩,
 ⟨.loc 6, .r (.mov (.tmp 13)), none⟩])
 (.seq (.seq (.reg [⟨.tmp 14, .r (.mov (.loc 6)), none⟩,
 ⟨.loc 15, .r (.bin .neq (.tmp 14) (.cst (.int .i64 0))), none⟩])
 (.cond (.loc 15) (.seq (.reg [⟨.tmp 16, .r (.build [.nils, .nils, .nils] []), none⟩,
 ⟨.tmp 17, .r (.mov (.loc 6)), none⟩,
 ⟨.none, .h (.store 3 (.loc 2) (.tmp 16)), none⟩,
 ⟨.loc 3, .r (.mov (.tmp 17)), none⟩])
 .ret)
 .skip))
 (.seq (.reg [⟨.tmp 18, .r (.load true 3 (.loc 5)), none⟩,
 ⟨.tmp 19, .call f3 [.tmp 18], none⟩,
 ⟨.loc 7, .r (.mov (.tmp 19)), none⟩])
 (.seq (.seq (.reg [⟨.tmp 20, .r (.mov (.loc 7)), none⟩,
 ⟨.loc 21, .r (.bin .neq (.tmp 20) (.cst (.int .i64 0))), none⟩])
 (.cond (.loc 21) (.seq (.reg [⟨.tmp 22, .r (.build [.nils, .nils, .nils] []), none⟩,
 ⟨.tmp 23, .r (.mov (.loc 7)), none⟩,
 ⟨.none, .h (.store 3 (.loc 2) (.tmp 22)), none⟩,
 ⟨.loc 3, .r (.mov (.tmp 23)), none⟩])
 .ret)
 .skip))
 (.seq (.reg [⟨.tmp 24, .r (.load true 3 (.loc 5)), none⟩,
 ⟨.none, .h (.store 3 (.loc 2) (.tmp 24)), none⟩,
 ⟨.loc 3, .r (.mov (.cst (.int .i64 0))), none⟩])
 .ret)))))))), [(.cell (.loc 2) true 3), (.tmp (.loc 3))]⟩

end Glb
