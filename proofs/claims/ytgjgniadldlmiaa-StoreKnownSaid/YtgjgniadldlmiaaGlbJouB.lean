/-
  A library of its own: its parts, one behind the other.
-/
import Derived.Test.YtgjgniadldlmiaaGlbJouA
import Derived.Test.YtgjgniadldlmiaaGlbTurA
set_option linter.unusedSimpArgs false
set_option linter.unusedVariables false
/-
  Layer 7: JournalSizes.
-/
namespace Glb
open Go
set_option maxRecDepth 10000
set_option maxHeartbeats 8000000

theorem dI88 : decide ((8 : Int) = 8) = true := rfl
theorem dI00 : decide ((0 : Int) = 0) = true := rfl

end Glb
