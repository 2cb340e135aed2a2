/-
  A library of its own: its parts, one behind the other.
-/
import Derived.Test.YtodbhmdfmdfiaaaGlbImgC
import Derived.Test.YtodbhmdfmdfiaaaGlbCgleberef13
import Derived.Test.YtodbhmdfmdfiaaaGlbQuoB
set_option linter.unusedSimpArgs false
set_option linter.unusedVariables false
/-
  The program's Get, GetChanges, GetConf; images in order.
-/
namespace Glb
open Go
set_option maxRecDepth 10000
set_option maxHeartbeats 8000000

end Glb

/-
  The program's Get, GetChanges, GetConf.
-/
namespace Glb
open Go
set_option maxRecDepth 10000
set_option maxHeartbeats 8000000

end Glb

/-
  Images, changes in memory of their own; members read.
-/
namespace Glb
open Go
set_option maxRecDepth 10000
set_option maxHeartbeats 8000000

end Glb
