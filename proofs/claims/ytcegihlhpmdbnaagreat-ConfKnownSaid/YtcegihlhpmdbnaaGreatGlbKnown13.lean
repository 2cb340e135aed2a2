/-
  The chapter's examples of layer 13: the law ImageKnown.
-/
import Derived.Test.YtcegihlhpmdbnaaGreatGlbTurA
set_option linter.unusedSimpArgs false
set_option linter.unusedVariables false
namespace Glb
open Go
set_option maxRecDepth 10000
set_option maxHeartbeats 16000000

theorem rd_lit {H : AHeap} {n len : Nat} {k : IntKind} {xs : List Int} {g : Bool} (hb : H[n]? = some (some (.arr 1 (xs.map fun n => [AV.int k n]) g))) (hl : xs.length = len) : Rd (fun _ => True) H (.sl 1 (xs.map fun n => [.int k n])) (.ref n 1 0 len (some len)) :=
  Own.rd (F := fun _ => True) _ (fun _ x => x) _ (own_row hb (by simpa using hl) (by simpa using hl) trivial (ownLL_ints k _ H xs))

end Glb
