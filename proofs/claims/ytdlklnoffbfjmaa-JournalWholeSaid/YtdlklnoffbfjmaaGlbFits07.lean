/-
  What arguments of a statement on journals are.
-/
import Derived.Test.YtdlklnoffbfjmaaGlbFitI
import Derived.Test.YtdlklnoffbfjmaaGlbChkB
import Derived.Test.YtdlklnoffbfjmaaGlbJouC
set_option linter.unusedSimpArgs false
set_option linter.unusedVariables false
namespace Glb
open Go

def lifeTy : List Ty := [.sl 1 [.sl 1 [.int .u8]], .int .i64, .sl 1 [.int .i64]]
theorem fitsR_life {d : List D} (h : FitsL d lifeTy) : ∃ x : Life, d = x.c ∧ ∀ b ∈ x.recs, bytesOk b := by
  obtain ⟨_, _, rfl, g1, h⟩ := FitsL_cons h
  obtain ⟨_, _, rfl, g2, h⟩ := FitsL_cons h
  obtain ⟨_, _, rfl, g3, h⟩ := FitsL_cons h
  cases FitsL_nil h
  obtain ⟨es, rfl, q1⟩ := Fits_sl g1
  obtain ⟨l, rfl, hl⟩ := FitsLL_mapR (f := fun b => [dBytes b]) (R := bytesOk) (fun d hd => fitsR_bytesL hd) q1
  obtain ⟨a2, rfl, -⟩ := Fits_int g2
  obtain ⟨a3, rfl, -⟩ := fitsR_ints g3
  exact ⟨⟨l, a2, a3⟩, rfl, hl⟩
theorem fitsR_lifes {d : List D} (h : FitsL d [.sl 3 lifeTy]) : ∃ l : List Life, d = [.sl 3 (l.map Life.c)] ∧ ∀ x ∈ l, ∀ b ∈ x.recs, bytesOk b := by
  obtain ⟨_, _, rfl, g1, h⟩ := FitsL_cons h
  cases FitsL_nil h
  obtain ⟨es, rfl, h1⟩ := Fits_sl g1
  obtain ⟨l, rfl, hl⟩ := FitsLL_mapR (f := Life.c) (R := fun x => ∀ b ∈ x.recs, bytesOk b) (fun d hd => fitsR_life hd) h1
  exact ⟨l, rfl, hl⟩

end Glb
