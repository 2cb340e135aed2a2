/-
  A library of its own: its parts, one behind the other.
-/
import Derived.Test.YtodbhmdfmdfiaaaGlbKitB
import Derived.Test.YtodbhmdfmdfiaaaGlbImgA
import Derived.Test.YtodbhmdfmdfiaaaGlbConA
import Derived.Test.YtodbhmdfmdfiaaaGlbCread
import Derived.Test.YtodbhmdfmdfiaaaGlbConB
import Derived.Test.YtodbhmdfmdfiaaaGlbCref02r
set_option linter.unusedSimpArgs false
set_option linter.unusedVariables false
/-
  A list of one's own that is appended to, its new items' rows somewhere else.
-/
namespace Glb
open Go

end Glb

/-
  The program's reader.
-/
namespace Glb
open Go
set_option maxRecDepth 10000
set_option maxHeartbeats 4000000

abbrev only (q : Nat) : Nat → Prop := fun m => m = q
end Glb

/-
  The program's reader (its lists), and the document's.
-/
namespace Glb
open Go
set_option maxRecDepth 10000
set_option maxHeartbeats 4000000

end Glb

/-
  The document's reader.
-/
namespace Glb
open Go
set_option maxRecDepth 10000
set_option maxHeartbeats 4000000

end Glb

/-
  The document's reader: lists; both readers made.
-/
namespace Glb
open Go
set_option maxRecDepth 10000
set_option maxHeartbeats 4000000

end Glb

/-
  Both readers made.
-/
namespace Glb
open Go
set_option maxRecDepth 10000
set_option maxHeartbeats 4000000

end Glb
