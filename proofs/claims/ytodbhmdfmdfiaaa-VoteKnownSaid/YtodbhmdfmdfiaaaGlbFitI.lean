/-
  A library of its own: its parts, one behind the other.
-/
import Derived.Test.YtodbhmdfmdfiaaaGlbFitA
import Derived.Test.YtodbhmdfmdfiaaaGlbFlow
import Derived.Test.YtodbhmdfmdfiaaaGlbImgA
set_option linter.unusedSimpArgs false
set_option linter.unusedVariables false
/-
  Arguments that are flows, messages.
-/
namespace Glb
open Go

end Glb

/-
  What arguments of a statement on images are, and that their numbers fit their kinds.
-/
namespace Glb
open Go

end Glb
