/-
  A library of its own: its parts, one behind the other.
-/
import Derived.Test.YtgjgniadldlmiaaGlbSecA
import Derived.Test.YtgjgniadldlmiaaGlbSecB
import Derived.Test.YtgjgniadldlmiaaGlbTurA
import Derived.Test.YtgjgniadldlmiaaGlbImgB
import Derived.Test.YtgjgniadldlmiaaGlbImgA
import Derived.Test.YtgjgniadldlmiaaGlbMorA
import Derived.Test.YtgjgniadldlmiaaGlbCimage
import Derived.Test.YtgjgniadldlmiaaGlbConB
import Derived.Test.YtgjgniadldlmiaaGlbLibB
import Derived.Test.YtgjgniadldlmiaaGlbQuoB
import Derived.Test.YtgjgniadldlmiaaGlbQuoA
import Derived.Test.YtgjgniadldlmiaaGlbKnown13
import Derived.Test.YtgjgniadldlmiaaGlbKitA
set_option linter.unusedSimpArgs false
set_option linter.unusedVariables false
/-
  Layer 4: what the laws call.
-/
namespace Glb
open Go
set_option maxRecDepth 10000
set_option maxHeartbeats 8000000

theorem rev_peq (g : Opd → AV) (h : AHeap) (neg : Bool) (x : Opd) : rev g h (.x (.peq neg x)) = (pnil (g x)).map fun b => .bool (b != neg) := Eq.trans rfl rfl
theorem pnil_ptr (n sz i o : Nat) : pnil (.ptr n sz i o) = some false := Eq.trans rfl rfl
theorem pnil_nil : pnil (.raw (.pointer none)) = some true := Eq.trans rfl rfl

end Glb

/-
  Layer 4: works.
-/
namespace Glb
open Go
set_option maxRecDepth 10000
set_option maxHeartbeats 8000000

theorem rd_litF {F : Nat → Prop} {H : AHeap} {n : Nat} {k : IntKind} {xs : List Int} {g : Bool} {len : Nat} (hb : H[n]? = some (some (.arr 1 (xs.map fun n => [AV.int k n]) g))) (hl : xs.length = len) (hF : F n) :
    Rd F H (.sl 1 (xs.map fun n => [.int k n])) (.ref n 1 0 len (some len)) := by
  simp only [Rd]
  refine ⟨xs.map fun n => [AV.int k n], .inr (.inr ⟨n, 0, len, some len, _, g, rfl, hF, hb, by simp; omega, fun c hc => by cases hc; omega, ?_⟩), ?_⟩
  · subst hl
    rw [List.drop_zero, List.take_of_length_le (by simp)]
  · exact OwnLL.rd (F := F) _ (fun _ x => x) _ (ownLL_ints k F H xs)

end Glb

/-
  Layer 4: both and Looks.
-/
namespace Glb
open Go
set_option maxRecDepth 10000
set_option maxHeartbeats 8000000

end Glb

/-
  Layer 4: the law SectorRuns.
-/
namespace Glb
open Go
set_option maxRecDepth 10000
set_option maxHeartbeats 8000000

end Glb
