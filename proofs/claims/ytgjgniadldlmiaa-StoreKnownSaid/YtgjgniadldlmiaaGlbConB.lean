/-
  A library of its own: its parts, one behind the other.
-/
import Derived.Test.YtgjgniadldlmiaaGlbConA
set_option linter.unusedSimpArgs false
set_option linter.unusedVariables false
/-
  What follows: the program's function and the document's.
-/
namespace Glb
open Go
set_option maxRecDepth 10000
set_option maxHeartbeats 8000000

attribute [go_sem] rev_clo

end Glb
/-
  What follows, by the document; the steps as plain data.
-/
namespace Glb
open Go
set_option maxRecDepth 10000
set_option maxHeartbeats 8000000

end Glb
