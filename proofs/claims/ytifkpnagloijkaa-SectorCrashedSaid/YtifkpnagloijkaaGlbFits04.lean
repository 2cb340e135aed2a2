/-
  What arguments of a statement on a disk are.
-/
import Derived.Test.YtifkpnagloijkaaGlbFitI
import Derived.Test.YtifkpnagloijkaaGlbSecC
set_option linter.unusedSimpArgs false
set_option linter.unusedVariables false
namespace Glb
open Go

def opTy : List Ty := [.int .i64, .int .i64, .int .i64, .sl 1 [.int .u8], .sl 1 [.int .i64]]
theorem fitsR_op {d : List D} (h : FitsL d opTy) : ∃ x : Op4, d = x.c ∧ x.R := by
  obtain ⟨_, _, rfl, g1, h⟩ := FitsL_cons h
  obtain ⟨_, _, rfl, g2, h⟩ := FitsL_cons h
  obtain ⟨_, _, rfl, g3, h⟩ := FitsL_cons h
  obtain ⟨_, _, rfl, g4, h⟩ := FitsL_cons h
  obtain ⟨_, _, rfl, g5, h⟩ := FitsL_cons h
  cases FitsL_nil h
  obtain ⟨a1, rfl, w1⟩ := Fits_int g1
  obtain ⟨a2, rfl, w2⟩ := Fits_int g2
  obtain ⟨a3, rfl, w3⟩ := Fits_int g3
  obtain ⟨a4, rfl, w4⟩ := fitsR_bytes g4
  obtain ⟨a5, rfl, w5⟩ := fitsR_ints g5
  exact ⟨⟨a1, a2, a3, a4, a5⟩, rfl, wf_i64 w2⟩
theorem fitsR_opsL {d : List D} (h : FitsL d [.sl 5 opTy]) : ∃ l : List Op4, d = [dOps l] ∧ ∀ x ∈ l, x.R := by
  obtain ⟨_, _, rfl, g1, h⟩ := FitsL_cons h
  cases FitsL_nil h
  obtain ⟨es, rfl, h1⟩ := Fits_sl g1
  obtain ⟨l, rfl, hl⟩ := FitsLL_mapR (f := Op4.c) (R := Op4.R) (fun d hd => fitsR_op hd) h1
  exact ⟨l, rfl, hl⟩

end Glb
