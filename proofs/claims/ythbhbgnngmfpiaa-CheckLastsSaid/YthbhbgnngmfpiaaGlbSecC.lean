/-
  A library of its own: its parts, one behind the other.
-/
import Derived.Test.YthbhbgnngmfpiaaGlbSecA
import Derived.Test.YthbhbgnngmfpiaaGlbSecB
import Derived.Test.YthbhbgnngmfpiaaGlbTurA
import Derived.Test.YthbhbgnngmfpiaaGlbImgB
import Derived.Test.YthbhbgnngmfpiaaGlbImgA
import Derived.Test.YthbhbgnngmfpiaaGlbMorA
import Derived.Test.YthbhbgnngmfpiaaGlbCimage
import Derived.Test.YthbhbgnngmfpiaaGlbConB
import Derived.Test.YthbhbgnngmfpiaaGlbLibB
import Derived.Test.YthbhbgnngmfpiaaGlbQuoB
import Derived.Test.YthbhbgnngmfpiaaGlbQuoA
import Derived.Test.YthbhbgnngmfpiaaGlbKitA
set_option linter.unusedSimpArgs false
set_option linter.unusedVariables false
/-
  Layer 4: what the laws call.
-/
namespace Glb
open Go
set_option maxRecDepth 10000
set_option maxHeartbeats 8000000

end Glb

/-
  Layer 4: works.
-/
namespace Glb
open Go
set_option maxRecDepth 10000
set_option maxHeartbeats 8000000

theorem rd_litF {F : Nat → Prop} {H : AHeap} {n : Nat} {k : IntKind} {xs : List Int} {g : Bool} {len : Nat} (hb : H[n]? = some (some (.arr 1 (xs.map fun n => [AV.int k n]) g))) (hl : xs.length = len) (hF : F n) :
    Rd F H (.sl 1 (xs.map fun n => [.int k n])) (.ref n 1 0 len (some len)) := by
  simp only [Rd]
  refine ⟨xs.map fun n => [AV.int k n], .inr (.inr ⟨n, 0, len, some len, _, g, rfl, hF, hb, by simp; omega, fun c hc => by cases hc; omega, ?_⟩), ?_⟩
  · subst hl
    rw [List.drop_zero, List.take_of_length_le (by simp)]
  · exact OwnLL.rd (F := F) _ (fun _ x => x) _ (ownLL_ints k F H xs)

end Glb

/-
  Layer 4: both and Looks.
-/
namespace Glb
open Go
set_option maxRecDepth 10000
set_option maxHeartbeats 8000000

end Glb

/-
  Layer 4: the law SectorRuns.
-/
namespace Glb
open Go
set_option maxRecDepth 10000
set_option maxHeartbeats 8000000

end Glb
