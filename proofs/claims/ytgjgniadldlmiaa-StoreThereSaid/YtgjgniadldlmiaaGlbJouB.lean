/-
  A library of its own: its parts, one behind the other.
-/
import Derived.Test.YtgjgniadldlmiaaGlbJouA
import Derived.Test.YtgjgniadldlmiaaGlbTurA
set_option linter.unusedSimpArgs false
set_option linter.unusedVariables false
/-
  Layer 7: JournalSizes.
-/
namespace Glb
open Go
set_option maxRecDepth 10000
set_option maxHeartbeats 8000000

theorem dI00 : decide ((0 : Int) = 0) = true := rfl

def arowL (R : List (List Int)) : List (List AV) := R.map fun b => [abytes b]
theorem arowL_rd (F : Nat → Prop) (h : AHeap) : ∀ R : List (List Int), RdLL F h (R.map fun b => [dBytes b]) (arowL R)
  | [] => rfl
  | b :: R => ⟨_, _, rfl, ⟨_, _, rfl, rd_abytes _ _ _, rfl⟩, arowL_rd F h R⟩
theorem arowL_snoc (R : List (List Int)) (b : List Int) : arowL (R ++ [b]) = arowL R ++ [[abytes b]] := by simp [arowL]

end Glb
