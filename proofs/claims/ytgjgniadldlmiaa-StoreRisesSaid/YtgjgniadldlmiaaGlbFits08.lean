/-
  What arguments of a statement on checkpoints are.
-/
import Derived.Test.YtgjgniadldlmiaaGlbFitI
import Derived.Test.YtgjgniadldlmiaaGlbChkB
set_option linter.unusedSimpArgs false
set_option linter.unusedVariables false
namespace Glb
open Go

theorem fitsR_rows {d : List D} (h : FitsL d [.sl 1 [.sl 1 [.int .u8]]]) : ∃ l : List (List Int), d = [dRows l] ∧ ∀ x ∈ l, bytesOk x := by
  obtain ⟨_, _, rfl, g1, h⟩ := FitsL_cons h
  cases FitsL_nil h
  obtain ⟨es, rfl, h1⟩ := Fits_sl g1
  obtain ⟨l, rfl, hl⟩ := FitsLL_mapR (f := fun b => [dBytes b]) (R := bytesOk) (fun d hd => fitsR_bytesL hd) h1
  exact ⟨l, rfl, hl⟩
end Glb
