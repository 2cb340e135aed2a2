/-
  A library of its own: its parts, one behind the other.
-/
import Derived.Test.YtodbhmdfmdfiaaaGlbKitA
import Derived.Test.YtodbhmdfmdfiaaaGlbLibD
import Derived.Test.YtodbhmdfmdfiaaaGlbKitB
set_option linter.unusedSimpArgs false
set_option linter.unusedVariables false
/-
  Arguments that read as logs, entries and numbers.
-/
namespace Glb
open Go

end Glb

/-
  Arguments that are members.
-/
namespace Glb
open Go

end Glb
