/-
  A library of its own: its parts, one behind the other.
-/
import Derived.Test.YtgjgniadldlmiaaGlbImgB
import Derived.Test.YtgjgniadldlmiaaGlbImgA
import Derived.Test.YtgjgniadldlmiaaGlbMorA
import Derived.Test.YtgjgniadldlmiaaGlbCimage
import Derived.Test.YtgjgniadldlmiaaGlbConB
import Derived.Test.YtgjgniadldlmiaaGlbLibB
import Derived.Test.YtgjgniadldlmiaaGlbQuoB
import Derived.Test.YtgjgniadldlmiaaGlbLibD
import Derived.Test.YtgjgniadldlmiaaGlbKitA
import Derived.Test.YtgjgniadldlmiaaGlbImgK
import Derived.Test.YtgjgniadldlmiaaGlbLibE
set_option linter.unusedSimpArgs false
set_option linter.unusedVariables false
/-
  The statements' own order.
-/
namespace Glb
open Go
set_option maxRecDepth 10000
set_option maxHeartbeats 8000000

end Glb

/-
  The example of layer 13.
-/
namespace Glb
open Go
set_option maxRecDepth 10000
set_option maxHeartbeats 16000000

theorem own_row {F : Nat → Prop} {H : AHeap} {sz n len : Nat} {rows : List (List AV)} {g : Bool} {ds : List (List D)} (b : H[n]? = some (some (.arr sz rows g))) (hl : rows.length = len) (hd : ds.length = len) (hF : F n) (ho : OwnLL ds (fun m => F m ∧ m ≠ n) H rows) : Own (.sl sz ds) F H (.ref n sz 0 len (some len)) := by
  simp only [Own]
  refine .inr (.inr ⟨n, 0, some len, rows, g, by rw [hd], hF, b, by omega, (fun c hc => by cases hc; omega), ?_⟩)
  rw [List.drop_zero, List.take_of_length_le (by omega)]
  exact ho
end Glb

/-
  What is read of any bytes has just these bytes: the law ImageOnly.
-/
namespace Glb
open Go
set_option maxRecDepth 10000
set_option maxHeartbeats 16000000

end Glb
