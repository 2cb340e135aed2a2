/-
  A library of its own: its parts, one behind the other.
-/
import Derived.Test.YtdeiamnhnfmilaaGreatGlbImgK
import Derived.Test.YtdeiamnhnfmilaaGreatGlbImgC
import Derived.Test.YtdeiamnhnfmilaaGreatGlbImgE
import Derived.Test.YtdeiamnhnfmilaaGreatGlbKitA
import Derived.Test.YtdeiamnhnfmilaaGreatGlbLibD
import Derived.Test.YtdeiamnhnfmilaaGreatGlbKitB
import Derived.Test.YtdeiamnhnfmilaaGreatGlbFlow
import Derived.Test.YtdeiamnhnfmilaaGreatGlbImgA
import Derived.Test.YtdeiamnhnfmilaaGreatGlbImgD
import Derived.Test.YtdeiamnhnfmilaaGreatGlbLibB
import Derived.Test.YtdeiamnhnfmilaaGreatGlbLibE
import Derived.Test.YtdeiamnhnfmilaaGreatGlbQuoA
import Derived.Test.YtdeiamnhnfmilaaGreatGlbMorA
set_option linter.unusedSimpArgs false
set_option linter.unusedVariables false
namespace Glb
open Go
set_option maxRecDepth 10000
set_option maxHeartbeats 16000000
end Glb
namespace Glb
open Go
set_option maxRecDepth 10000
set_option maxHeartbeats 16000000
theorem OwnO.lo {lo lo' : Nat} {h : AHeap} {sz : Nat} {a : AV} {es : List (List AV)} (ho : OwnO lo h sz a es) (hl : lo' <= lo) : OwnO lo' h sz a es := by
 rcases ho with ho | ⟨n, off, cap, row, g, h1, h2, h3⟩
 ·exact .inl ho
 ·exact .inr ⟨n, off, cap, row, g, h1, Nat.le_trans hl h2, h3⟩
end Glb
namespace Glb
open Go
set_option maxRecDepth 10000
set_option maxHeartbeats 16000000
end Glb
namespace Glb
open Go
def afld (o n : Nat) (agg : Bool) : AV -> Option AV
 | .agg cs => if agg then (if o + n <= cs.length then some (.agg ((cs.drop o).take n)) else none) else cs[o]?
 | _ => none
theorem rev_fld (g : Opd -> AV) (h : AHeap) (o n : Nat) (agg : Bool) (x : Opd) : rev g h (.x (.fld o n agg x)) = afld o n agg (g x) := by
 simp only [rev, xev, afld]
 cases g x <;> rfl
theorem afld_one (o n : Nat) (cs : List AV) : afld o n false (.agg cs) = cs[o]? := Eq.trans rfl rfl
theorem afld_agg (o n : Nat) (cs : List AV) : afld o n true (.agg cs) = if o + n <= cs.length then some (.agg ((cs.drop o).take n)) else none := Eq.trans rfl rfl
attribute [go_sem] rev_fld afld_one afld_agg
end Glb
namespace Glb
open Go
set_option maxRecDepth 10000
set_option maxHeartbeats 16000000
end Glb
