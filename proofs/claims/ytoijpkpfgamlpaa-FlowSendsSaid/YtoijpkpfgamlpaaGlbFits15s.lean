/-
  Arguments that tell what a member must not forget, and what is asked of a flow.
-/
import Derived.Test.YtoijpkpfgamlpaaGlbFits15
import Derived.Test.YtoijpkpfgamlpaaGlbPure
set_option linter.unusedSimpArgs false
set_option linter.unusedVariables false
namespace Glb
open Go

def askTy : List Ty := [.int .i64, .int .i64, .int .i64, .int .i64, .int .i64, .int .i64, .int .i64]
def confTy : List Ty := [.sl 1 [.int .i64], .sl 1 [.int .i64], .sl 1 [.int .i64]]
def hardTy : List Ty := [.int .i64, .int .i64, .int .i64, .int .i64, .int .i64, .sl 3 entryTy, .sl 1 [.int .i64], .sl 1 [.int .i64], .sl 1 [.int .i64], .sl 1 [.int .u8]]

theorem fits_ask {d : List D} (h : FitsL d askTy) : ∃ (w : Flow) (a b c : Int), d = w.c ++ [.int .i64 a, .int .i64 b, .int .i64 c] := by
  obtain ⟨_, _, rfl, g1, h⟩ := FitsL_cons h
  obtain ⟨_, _, rfl, g2, h⟩ := FitsL_cons h
  obtain ⟨_, _, rfl, g3, h⟩ := FitsL_cons h
  obtain ⟨_, _, rfl, g4, h⟩ := FitsL_cons h
  obtain ⟨_, _, rfl, g5, h⟩ := FitsL_cons h
  obtain ⟨_, _, rfl, g6, h⟩ := FitsL_cons h
  obtain ⟨_, _, rfl, g7, h⟩ := FitsL_cons h
  cases FitsL_nil h
  obtain ⟨a1, rfl, _⟩ := Fits_int g1
  obtain ⟨a2, rfl, _⟩ := Fits_int g2
  obtain ⟨a3, rfl, _⟩ := Fits_int g3
  obtain ⟨a4, rfl, _⟩ := Fits_int g4
  obtain ⟨a5, rfl, _⟩ := Fits_int g5
  obtain ⟨a6, rfl, _⟩ := Fits_int g6
  obtain ⟨a7, rfl, _⟩ := Fits_int g7
  exact ⟨⟨a1, a2, a3, a4⟩, a5, a6, a7, rfl⟩

theorem fits_conf {d : List D} (h : FitsL d confTy) : ∃ x : Conf, d = x.c := by
  obtain ⟨_, _, rfl, g1, h⟩ := FitsL_cons h
  obtain ⟨_, _, rfl, g2, h⟩ := FitsL_cons h
  obtain ⟨_, _, rfl, g3, h⟩ := FitsL_cons h
  cases FitsL_nil h
  obtain ⟨a1, rfl⟩ := fits_ints g1
  obtain ⟨a2, rfl⟩ := fits_ints g2
  obtain ⟨a3, rfl⟩ := fits_ints g3
  exact ⟨⟨a1, a2, a3⟩, rfl⟩

theorem fits_hard {d : List D} (h : FitsL d hardTy) : ∃ x : Hard, d = x.c := by
  obtain ⟨_, _, rfl, g1, h⟩ := FitsL_cons h
  obtain ⟨_, _, rfl, g2, h⟩ := FitsL_cons h
  obtain ⟨_, _, rfl, g3, h⟩ := FitsL_cons h
  obtain ⟨_, _, rfl, g4, h⟩ := FitsL_cons h
  obtain ⟨_, _, rfl, g5, h⟩ := FitsL_cons h
  obtain ⟨_, _, rfl, g6, h⟩ := FitsL_cons h
  obtain ⟨_, _, rfl, g7, h⟩ := FitsL_cons h
  obtain ⟨_, _, rfl, g8, h⟩ := FitsL_cons h
  obtain ⟨_, _, rfl, g9, h⟩ := FitsL_cons h
  obtain ⟨_, _, rfl, g10, h⟩ := FitsL_cons h
  cases FitsL_nil h
  obtain ⟨a1, rfl, _⟩ := Fits_int g1
  obtain ⟨a2, rfl, _⟩ := Fits_int g2
  obtain ⟨a3, rfl, _⟩ := Fits_int g3
  obtain ⟨a4, rfl, _⟩ := Fits_int g4
  obtain ⟨a5, rfl, _⟩ := Fits_int g5
  obtain ⟨a6, rfl⟩ := fits_entries g6
  obtain ⟨a7, rfl⟩ := fits_ints g7
  obtain ⟨a8, rfl⟩ := fits_ints g8
  obtain ⟨a9, rfl⟩ := fits_ints g9
  obtain ⟨a10, rfl⟩ := fits_bytes g10
  exact ⟨⟨a1, a2, a3, ⟨a4, a5, a6⟩, ⟨a7, a8, a9⟩, a10⟩, rfl⟩

end Glb
