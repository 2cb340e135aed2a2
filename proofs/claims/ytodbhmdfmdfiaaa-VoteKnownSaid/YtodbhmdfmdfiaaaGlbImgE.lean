/-
  A library of its own: its parts, one behind the other.
-/
import Derived.Test.YtodbhmdfmdfiaaaGlbImgB
import Derived.Test.YtodbhmdfmdfiaaaGlbImgD
import Derived.Test.YtodbhmdfmdfiaaaGlbLogA
set_option linter.unusedSimpArgs false
set_option linter.unusedVariables false
/-
  A clipped list that is appended to: its row stays.
-/
namespace Glb
open Go

end Glb

/-
  An item of a list of one's own is written.
-/
namespace Glb
open Go

end Glb

/-
  A Hard behind a change.
-/
namespace Glb
open Go
set_option maxRecDepth 10000
set_option maxHeartbeats 16000000

end Glb

/-
  A vote is put into its place.
-/
namespace Glb
open Go
set_option maxRecDepth 10000
set_option maxHeartbeats 16000000

end Glb

/-
  An image behind a change.
-/
namespace Glb
open Go
set_option maxRecDepth 10000
set_option maxHeartbeats 16000000

end Glb
