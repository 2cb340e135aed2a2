/-
  What functions of the program are, one by one (the functions that they call as parameters), in a form of which something can be shown.
-/
import Derived.Test.YtifkpnagloijkaaGlbLibB
set_option linter.unusedSimpArgs false
set_option linter.unusedVariables false
namespace Glb
open Go
set_option maxRecDepth 100000

/-- slices.Clone[[]byte,byte] -/
def c_slices_Clone_byte_byte : AFn := ⟨8, fun s => List.contains [0, 2, 4] s, (.seq (.reg [⟨.loc 2, .r (.mov (.cst .nils)), none⟩])
 (.seq (.seq (.reg [⟨.tmp 3, .r (.mov (.loc 0)), none⟩,
 ⟨.loc 4, .r (.nileq false (.tmp 3)), none⟩])
 (.cond (.loc 4) (.seq (.reg [⟨.loc 2, .r (.mov (.cst .nils)), none⟩])
 .ret)
 .skip))
 (.seq (.reg [⟨.tmp 5, .h (.bsl 1 []), none⟩,
 ⟨.tmp 6, .r (.mov (.loc 0)), none⟩,
 ⟨.tmp 7, .h (.app 1 1 (.tmp 5) (.tmp 6)), none⟩,
 ⟨.loc 2, .r (.mov (.tmp 7)), none⟩])
 .ret))), [(.tmp (.loc 2))]⟩

end Glb
