/-
  A library of its own: its parts, one behind the other.
-/
import Derived.Test.YthbhbgnngmfpiaaGlbImgB
import Derived.Test.YthbhbgnngmfpiaaGlbImgA
import Derived.Test.YthbhbgnngmfpiaaGlbMorA
import Derived.Test.YthbhbgnngmfpiaaGlbCimage
import Derived.Test.YthbhbgnngmfpiaaGlbConB
set_option linter.unusedSimpArgs false
set_option linter.unusedVariables false
/-
  Things read by the program: entries, members, votes.
-/
namespace Glb
open Go
set_option maxRecDepth 10000
set_option maxHeartbeats 8000000

abbrev two (s q : Nat) : Nat → Prop := fun m => m = s ∨ m = q
theorem notRes_lt {n k s sz i o : Nat} (h : s < n) : notRes n k (.ptr s sz i o) = true := by simp [notRes]; omega
end Glb

/-
  Lists read by the program.
-/
namespace Glb
open Go
set_option maxRecDepth 10000
set_option maxHeartbeats 8000000

end Glb

/-
  Lists of a source, logs, Hards, changes.
-/
namespace Glb
open Go
set_option maxRecDepth 10000
set_option maxHeartbeats 8000000

end Glb
