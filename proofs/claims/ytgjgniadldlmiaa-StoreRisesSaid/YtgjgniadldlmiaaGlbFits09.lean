/-
  What arguments of a statement on stores are.
-/
import Derived.Test.YtgjgniadldlmiaaGlbFits08
import Derived.Test.YtgjgniadldlmiaaGlbSto4
set_option linter.unusedSimpArgs false
set_option linter.unusedVariables false
namespace Glb
open Go

theorem fits_bool1 {d : List D} (h : FitsL d [.bool]) : ∃ b : Bool, d = [D.bool b] ∧ True := by
  obtain ⟨x, _, rfl, g1, h⟩ := FitsL_cons h
  cases FitsL_nil h
  cases x with
  | bool b => exact ⟨b, rfl, trivial⟩
  | int k n => simp [Fits] at g1
  | str s => simp [Fits] at g1
  | sl sz ds => simp [Fits] at g1
theorem fits_bools {d : List D} (h : FitsL d [.sl 1 [.bool]]) : ∃ l : List Bool, d = [.sl 1 (l.map fun b => [D.bool b])] := by
  obtain ⟨_, _, rfl, g1, h⟩ := FitsL_cons h
  cases FitsL_nil h
  obtain ⟨es, rfl, h1⟩ := Fits_sl g1
  obtain ⟨l, rfl, -⟩ := FitsLL_mapR (f := fun b => [D.bool b]) (R := fun _ => True) (fun d hd => fits_bool1 hd) h1
  exact ⟨l, rfl⟩

end Glb
