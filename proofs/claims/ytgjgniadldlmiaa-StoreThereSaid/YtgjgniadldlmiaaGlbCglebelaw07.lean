/-
  What functions of the program are, one by one (the functions that they call as parameters), in a form of which something can be shown.
-/
import Derived.Test.YtgjgniadldlmiaaGlbLibB
set_option linter.unusedSimpArgs false
set_option linter.unusedVariables false
namespace Glb
open Go
set_option maxRecDepth 100000

def c_glebekit_CopyRows_l0 (f0 : FuncId) : AC := (.seq (.seq (.reg [⟨.tmp 5, .r (.mov (.loc 4)), none⟩,
 ⟨.tmp 6, .r (.mov (.loc 0)), none⟩,
 ⟨.tmp 7, .r (.len (.tmp 6)), none⟩,
 ⟨.loc 8, .r (.bin .lss (.tmp 5) (.tmp 7)), none⟩])
 (.cond (.loc 8) .skip
 (.exit 0)))
 (.seq (.block 1 (.reg [⟨.tmp 11, .r (.mov (.loc 3)), none⟩,
 ⟨.tmp 12, .r (.mov (.loc 0)), none⟩,
 ⟨.tmp 13, .r (.mov (.loc 4)), none⟩,
 ⟨.tmp 14, .r (.idx 1 (.tmp 12) (.tmp 13)), none⟩,
 ⟨.tmp 15, .r (.load false 1 (.tmp 14)), none⟩,
 ⟨.tmp 16, .call f0 [.tmp 15], none⟩,
 ⟨.tmp 17, .h (.bsl 1 [.tmp 16]), none⟩,
 ⟨.tmp 18, .h (.app 1 24 (.tmp 11) (.tmp 17)), none⟩,
 ⟨.loc 3, .r (.mov (.tmp 18)), none⟩]))
 (.reg [⟨.tmp 9, .r (.mov (.loc 4)), none⟩,
 ⟨.tmp 10, .r (.bin .add (.tmp 9) (.cst (.int .i64 1))), none⟩,
 ⟨.loc 4, .r (.mov (.tmp 10)), none⟩])))
/-- glebe/glebekit.CopyRows -/
def c_glebekit_CopyRows (f0 : FuncId) : AFn := ⟨20, fun s => List.contains [0, 2, 3, 4, 8] s, (.seq (.reg [⟨.loc 2, .r (.mov (.cst .nils)), none⟩])
 (.seq (.reg [⟨.loc 3, .r (.mov (.cst .nils)), none⟩])
 (.seq (.seq (.reg [⟨.loc 4, .r (.mov (.cst (.int .i64 0))), none⟩])
 (.block 0 (.loop (c_glebekit_CopyRows_l0 f0))))
 (.seq (.reg [⟨.tmp 19, .r (.mov (.loc 3)), none⟩,
 ⟨.loc 2, .r (.mov (.tmp 19)), none⟩])
 .ret)))), [(.tmp (.loc 2))]⟩

end Glb
