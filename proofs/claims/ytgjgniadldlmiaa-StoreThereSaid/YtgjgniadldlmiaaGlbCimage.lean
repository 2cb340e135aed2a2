/-
  What functions of the program are, one by one (the functions that they call as parameters), in a form of which something can be shown.
-/
import Derived.Test.YtgjgniadldlmiaaGlbLibB
set_option linter.unusedSimpArgs false
set_option linter.unusedVariables false
namespace Glb
open Go
set_option maxRecDepth 100000

/-- glebe/pack.Int -/
def c_pack_Int (f0 f1 : FuncId) : AFn := ⟨9, fun s => List.contains [0, 1, 4] s, (.seq (.reg [⟨.loc 4, .r (.mov (.cst .nils)), none⟩])
 (.seq (.reg [⟨.tmp 5, .r (.mov (.loc 0)), none⟩,
 ⟨.tmp 6, .call f0 [.tmp 5, (.cst (.int .i64 8))], none⟩,
 ⟨.tmp 7, .r (.mov (.loc 1)), none⟩,
 ⟨.tmp 8, .call f1 [.tmp 6, .tmp 7], none⟩,
 ⟨.loc 4, .r (.mov (.tmp 8)), none⟩])
 .ret)), [(.tmp (.loc 4))]⟩

end Glb
