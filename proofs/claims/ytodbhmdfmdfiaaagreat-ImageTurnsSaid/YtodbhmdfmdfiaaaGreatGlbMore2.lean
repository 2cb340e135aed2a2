/-
  More steps: a field of a struct.
-/
import Derived.Test.YtodbhmdfmdfiaaaGreatGlbMorA
set_option linter.unusedSimpArgs false
set_option linter.unusedVariables false
namespace Glb
open Go

end Glb
