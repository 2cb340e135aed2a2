/-
  What functions of the program are, one by one (the functions that they call as parameters), in a form of which something can be shown.
-/
import Derived.Test.YtdeiamnhnfmilaaGreatGlbShort
import Derived.Test.YtdeiamnhnfmilaaGreatGlbLibB
set_option linter.unusedSimpArgs false
set_option linter.unusedVariables false
namespace Glb
open Go
set_option maxRecDepth 100000
def c_slices_Clone_int_int : AFn := ⟨8, fun s => List.contains [0, 2, 4] s, (.seq (.reg [Qw 2])
 (.seq (.seq (.reg [Qa 3 0,
 ⟨.loc 4, .r (.nileq false (.tmp 3)), none⟩])
 (.cond (.loc 4) (.seq (.reg [Qw 2])
 .ret)
 .skip))
 (.seq (.reg [⟨.tmp 5, .h (.bsl 1 []), none⟩,
 Qa 6 0,
 ⟨.tmp 7, .h (.app 1 8 (.tmp 5) (.tmp 6)), none⟩,
 Qb 2 7])
 .ret))), [(.tmp (.loc 2))]⟩
end Glb
