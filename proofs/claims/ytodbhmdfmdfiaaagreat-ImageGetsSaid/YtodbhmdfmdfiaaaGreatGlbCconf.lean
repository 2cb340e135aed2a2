/-
  What functions of the program are, one by one (the functions that they call as parameters), in a form of which something can be shown.
-/
import Derived.Test.YtodbhmdfmdfiaaaGreatGlbLibB
set_option linter.unusedSimpArgs false
set_option linter.unusedVariables false
namespace Glb
open Go
set_option maxRecDepth 100000

/-- glebe/glebekit.SpoilConf -/
def c_glebekit_SpoilConf (f0 : FuncId) : AFn := ⟨11, fun s => List.contains [0, 1] s, (.seq (.reg [⟨.loc 1, .h (.box (.loc 0)), none⟩])
 (.seq (.reg [⟨.tmp 2, .r (.off 0 (.loc 1)), none⟩,
 ⟨.tmp 3, .r (.load false 1 (.tmp 2)), none⟩,
 ⟨.tmp 4, .call f0 [.tmp 3], none⟩])
 (.seq (.reg [⟨.tmp 5, .r (.off 1 (.loc 1)), none⟩,
 ⟨.tmp 6, .r (.load false 1 (.tmp 5)), none⟩,
 ⟨.tmp 7, .call f0 [.tmp 6], none⟩])
 (.reg [⟨.tmp 8, .r (.off 2 (.loc 1)), none⟩,
 ⟨.tmp 9, .r (.load false 1 (.tmp 8)), none⟩,
 ⟨.tmp 10, .call f0 [.tmp 9], none⟩])))), []⟩

end Glb
