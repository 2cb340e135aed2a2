/-
  Arguments that are members.
-/
import Derived.Test.YtoijpkpfgamlpaaGlbFits
import Derived.Test.YtoijpkpfgamlpaaGlbPure
set_option linter.unusedSimpArgs false
set_option linter.unusedVariables false
namespace Glb
open Go

def confTy : List Ty := [.sl 1 [.int .i64], .sl 1 [.int .i64], .sl 1 [.int .i64]]

theorem fits_conf {d : List D} (h : FitsL d confTy) : ∃ x : Conf, d = x.c := by
  obtain ⟨_, _, rfl, g1, h⟩ := FitsL_cons h
  obtain ⟨_, _, rfl, g2, h⟩ := FitsL_cons h
  obtain ⟨_, _, rfl, g3, h⟩ := FitsL_cons h
  cases FitsL_nil h
  obtain ⟨a1, rfl⟩ := fits_ints g1
  obtain ⟨a2, rfl⟩ := fits_ints g2
  obtain ⟨a3, rfl⟩ := fits_ints g3
  exact ⟨⟨a1, a2, a3⟩, rfl⟩

theorem fits_intsL {d : List D} (h : FitsL d [.sl 1 [.int .i64]]) : ∃ l, d = [dInts l] := by
  obtain ⟨_, _, rfl, g, h⟩ := FitsL_cons h
  cases FitsL_nil h
  obtain ⟨l, rfl⟩ := fits_ints g
  exact ⟨l, rfl⟩

end Glb
