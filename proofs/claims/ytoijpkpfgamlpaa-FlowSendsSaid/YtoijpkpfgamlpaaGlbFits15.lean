/-
  Arguments that are flows, messages.
-/
import Derived.Test.YtoijpkpfgamlpaaGlbFits
import Derived.Test.YtoijpkpfgamlpaaGlbFlow
set_option linter.unusedSimpArgs false
set_option linter.unusedVariables false
namespace Glb
open Go

def flowTy : List Ty := [.int .i64, .int .i64, .int .i64, .int .i64]
def msgTy : List Ty := [.int .i64, .int .i64, .int .i64, .int .i64, .int .i64, .int .i64, .int .i64, .int .i64, .int .i64, .int .i64, .int .i64, .int .i64, .int .i64, .int .i64, .bool, .sl 3 entryTy, .sl 1 [.int .u8]]

theorem fits_flow {d : List D} (h : FitsL d flowTy) : ∃ w : Flow, d = w.c := by
  obtain ⟨_, _, rfl, h1, h⟩ := FitsL_cons h
  obtain ⟨_, _, rfl, h2, h⟩ := FitsL_cons h
  obtain ⟨_, _, rfl, h3, h⟩ := FitsL_cons h
  obtain ⟨_, _, rfl, h4, h⟩ := FitsL_cons h
  cases FitsL_nil h
  obtain ⟨a, rfl, _⟩ := Fits_int h1
  obtain ⟨b, rfl, _⟩ := Fits_int h2
  obtain ⟨c, rfl, _⟩ := Fits_int h3
  obtain ⟨d, rfl, _⟩ := Fits_int h4
  exact ⟨⟨a, b, c, d⟩, rfl⟩

theorem fits_msg {d : List D} (h : FitsL d msgTy) : ∃ m : Msg, d = m.c := by
  obtain ⟨_, _, rfl, g1, h⟩ := FitsL_cons h
  obtain ⟨_, _, rfl, g2, h⟩ := FitsL_cons h
  obtain ⟨_, _, rfl, g3, h⟩ := FitsL_cons h
  obtain ⟨_, _, rfl, g4, h⟩ := FitsL_cons h
  obtain ⟨_, _, rfl, g5, h⟩ := FitsL_cons h
  obtain ⟨_, _, rfl, g6, h⟩ := FitsL_cons h
  obtain ⟨_, _, rfl, g7, h⟩ := FitsL_cons h
  obtain ⟨_, _, rfl, g8, h⟩ := FitsL_cons h
  obtain ⟨_, _, rfl, g9, h⟩ := FitsL_cons h
  obtain ⟨_, _, rfl, g10, h⟩ := FitsL_cons h
  obtain ⟨_, _, rfl, g11, h⟩ := FitsL_cons h
  obtain ⟨_, _, rfl, g12, h⟩ := FitsL_cons h
  obtain ⟨_, _, rfl, g13, h⟩ := FitsL_cons h
  obtain ⟨_, _, rfl, g14, h⟩ := FitsL_cons h
  obtain ⟨_, _, rfl, g15, h⟩ := FitsL_cons h
  obtain ⟨_, _, rfl, g16, h⟩ := FitsL_cons h
  obtain ⟨_, _, rfl, g17, h⟩ := FitsL_cons h
  cases FitsL_nil h
  obtain ⟨a1, rfl, _⟩ := Fits_int g1
  obtain ⟨a2, rfl, _⟩ := Fits_int g2
  obtain ⟨a3, rfl, _⟩ := Fits_int g3
  obtain ⟨a4, rfl, _⟩ := Fits_int g4
  obtain ⟨a5, rfl, _⟩ := Fits_int g5
  obtain ⟨a6, rfl, _⟩ := Fits_int g6
  obtain ⟨a7, rfl, _⟩ := Fits_int g7
  obtain ⟨a8, rfl, _⟩ := Fits_int g8
  obtain ⟨a9, rfl, _⟩ := Fits_int g9
  obtain ⟨a10, rfl, _⟩ := Fits_int g10
  obtain ⟨a11, rfl, _⟩ := Fits_int g11
  obtain ⟨a12, rfl, _⟩ := Fits_int g12
  obtain ⟨a13, rfl, _⟩ := Fits_int g13
  obtain ⟨a14, rfl, _⟩ := Fits_int g14
  obtain ⟨a15, rfl⟩ := Fits_bool g15
  obtain ⟨a16, rfl⟩ := fits_entries g16
  obtain ⟨a17, rfl⟩ := fits_bytes g17
  exact ⟨⟨a1, a2, a3, a4, a5, a6, a7, a8, a9, a10, a11, a12, a13, a14, a15, a16, a17⟩, rfl⟩

end Glb
