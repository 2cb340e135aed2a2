/-
  The statements on a group's log.
-/
import Derived.Test.YtodbhmdfmdfiaaaGlbLogA
import Derived.Test.YtodbhmdfmdfiaaaGlbLibD
import Derived.Test.YtodbhmdfmdfiaaaGlbCglebelaw11
set_option linter.unusedSimpArgs false
set_option linter.unusedVariables false
namespace Glb
open Go
set_option maxRecDepth 10000
set_option maxHeartbeats 4000000

/-- a log of which something is promised -/
def Right (l : Log) : Prop := (0 ≤ l.base ∧ l.base ≤ 2^40) ∧ (0 ≤ l.bterm ∧ l.bterm ≤ 2^40) ∧ l.es.length ≤ 2000 ∧ ∀ e ∈ l.es, e.data.length ≤ 65536

theorem Right.ok {l : Log} (h : Right l) : LogOk l := ⟨h.1.1, by have := h.1.2; omega, by have := h.2.2.1; omega, fun e he => by have := h.2.2.2 e he; omega⟩

end Glb
