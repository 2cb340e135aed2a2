/-
  A library of its own: its parts, one behind the other.
-/
import Derived.Test.YtgjgniadldlmiaaGlbQuoA
import Derived.Sort.Grow
set_option linter.unusedSimpArgs false
set_option linter.unusedVariables false
/-
  A list of numbers of one's own, sorted by the library.
-/
namespace Glb
open Go
set_option maxRecDepth 10000
set_option maxHeartbeats 4000000

def sorted (l : List Int) : List Int := l.mergeSort fun x y => decide (x ≤ y)
theorem sorted_length (l : List Int) : (sorted l).length = l.length := List.length_mergeSort _

end Glb

/-
  Numbers of lists, rising, each once: what they are, and the library's way.
-/
namespace Glb
open Go
set_option maxRecDepth 10000
set_option maxHeartbeats 4000000

/-! rising lists -/

/-! each once, of a list in order -/

def dn (l : List Int) : Nat → List Int
  | 0 => []
  | n + 1 => dn l n ++ (if n ≠ 0 ∧ l[n]? = l[n - 1]? then [] else l[n]?.toList)
end Glb

/-
  Numbers of lists, rising, each once: the program's functions and the document's.
-/
namespace Glb
open Go
set_option maxRecDepth 10000
set_option maxHeartbeats 4000000

end Glb

/-
  Each number once: the library's slices.Compact.
-/
namespace Glb
open Go
set_option maxRecDepth 10000
set_option maxHeartbeats 4000000

end Glb

/-
  Who votes, who belongs to members, whether they are right: the program's functions and the document's.
-/
namespace Glb
open Go
set_option maxRecDepth 10000
set_option maxHeartbeats 4000000

/-! the document's -/

/-! right members -/

end Glb

/-
  Whether members are right: the program's function and the document's.
-/
namespace Glb
open Go
set_option maxRecDepth 10000
set_option maxHeartbeats 4000000

theorem rev_clo (g : Opd → AV) (h : AHeap) (f : FuncId) (cs : List Opd) : rev g h (.clo f cs) = some (.clo f [] (cs.map g)) := Eq.trans rfl rfl

end Glb
