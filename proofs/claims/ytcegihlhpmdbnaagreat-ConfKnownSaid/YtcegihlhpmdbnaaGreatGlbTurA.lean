/-
  A library of its own: its parts, one behind the other.
-/
import Derived.Test.YtcegihlhpmdbnaaGreatGlbImgK
import Derived.Test.YtcegihlhpmdbnaaGreatGlbImgC
import Derived.Test.YtcegihlhpmdbnaaGreatGlbImgB
import Derived.Test.YtcegihlhpmdbnaaGreatGlbImgD
import Derived.Test.YtcegihlhpmdbnaaGreatGlbKitA
import Derived.Test.YtcegihlhpmdbnaaGreatGlbLibB
import Derived.Test.YtcegihlhpmdbnaaGreatGlbLibD
import Derived.Test.YtcegihlhpmdbnaaGreatGlbKitB
import Derived.Test.YtcegihlhpmdbnaaGreatGlbImgA
import Derived.Test.YtcegihlhpmdbnaaGreatGlbImgX
import Derived.Test.YtcegihlhpmdbnaaGreatGlbQuoA
import Derived.Test.YtcegihlhpmdbnaaGreatGlbMorA
set_option linter.unusedSimpArgs false
set_option linter.unusedVariables false
/-
  Images and changes are read from their bytes as they were: the law ImageBack.
-/
namespace Glb
open Go
set_option maxRecDepth 10000
set_option maxHeartbeats 16000000

/-! what is read, as it stands -/
end Glb

/-
  An image without what a change is about; whether the logs of an image may be.
-/
namespace Glb
open Go
set_option maxRecDepth 10000
set_option maxHeartbeats 16000000

end Glb

/-
  Images that changes have turned: their sizes stay within bounds.
-/
namespace Glb
open Go
set_option maxRecDepth 10000
set_option maxHeartbeats 16000000

end Glb

/-
  More steps: a field of a struct.
-/
namespace Glb
open Go

def afld (o n : Nat) (agg : Bool) : AV → Option AV
  | .agg cs => if agg then (if o + n ≤ cs.length then some (.agg ((cs.drop o).take n)) else none) else cs[o]?
  | _ => none
theorem rev_fld (g : Opd → AV) (h : AHeap) (o n : Nat) (agg : Bool) (x : Opd) : rev g h (.x (.fld o n agg x)) = afld o n agg (g x) := by
  simp only [rev, xev, afld]
  cases g x <;> rfl
theorem afld_one (o n : Nat) (cs : List AV) : afld o n false (.agg cs) = cs[o]? := Eq.trans rfl rfl
theorem afld_agg (o n : Nat) (cs : List AV) : afld o n true (.agg cs) = if o + n ≤ cs.length then some (.agg ((cs.drop o).take n)) else none := Eq.trans rfl rfl
attribute [go_sem] rev_fld afld_one afld_agg

end Glb

/-
  A change leaves all others as they were, and does twice what it does once: the law ImageApart.
-/
namespace Glb
open Go
set_option maxRecDepth 10000
set_option maxHeartbeats 16000000

end Glb
