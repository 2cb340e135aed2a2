/-
  A library of its own: its parts, one behind the other.
-/
import Derived.Test.YtodbhmdfmdfiaaaGlbQuoB
import Derived.Test.YtodbhmdfmdfiaaaGlbMorA
import Derived.Test.YtodbhmdfmdfiaaaGlbCconf
set_option linter.unusedSimpArgs false
set_option linter.unusedVariables false
/-
  The library's Clone, Delete and ContainsFunc on numbers.
-/
namespace Glb
open Go
set_option maxRecDepth 10000
set_option maxHeartbeats 4000000

end Glb

/-
  How members change: the program's functions and the document's.
-/
namespace Glb
open Go
set_option maxRecDepth 10000
set_option maxHeartbeats 8000000

theorem own_conf {F : Nat → Prop} {h : AHeap} {x : Conf} {o n e : AV} (ho : Own (dInts x.old) F h o) (hn : Own (dInts x.new) F h n) (he : Own (dInts x.learners) F h e) : OwnL x.c F h [o, n, e] := by
  simp only [Conf.c, OwnL]; exact ⟨_, _, rfl, ho, _, _, rfl, hn, _, _, rfl, he, rfl⟩
end Glb

/-
  A node goes: the program's function and the document's.
-/
namespace Glb
open Go
set_option maxRecDepth 10000
set_option maxHeartbeats 8000000

end Glb
