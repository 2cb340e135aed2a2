/-
  What arguments of StoreThere are.
-/
import Derived.Test.YtgjgniadldlmiaaGlbFitI
import Derived.Test.YtgjgniadldlmiaaGlbChkB
import Derived.Test.YtgjgniadldlmiaaGlbStoA
import Derived.Test.YtgjgniadldlmiaaGlbStoB
set_option linter.unusedSimpArgs false
set_option linter.unusedVariables false
namespace Glb
open Go

def deedTy : List Ty := [.bool, .sl 1 [.int .u8], .int .i64, .sl 1 [.int .i64]]
theorem fitsR_deed {d : List D} (h : FitsL d deedTy) : ∃ x : Deed, d = x.c ∧ (bytesOk x.data ∧ -9223372036854775808 ≤ x.cut ∧ x.cut ≤ 9223372036854775807) := by
  obtain ⟨a, _, rfl, g1, h⟩ := FitsL_cons h
  obtain ⟨_, _, rfl, g2, h⟩ := FitsL_cons h
  obtain ⟨_, _, rfl, g3, h⟩ := FitsL_cons h
  obtain ⟨_, _, rfl, g4, h⟩ := FitsL_cons h
  cases FitsL_nil h
  obtain ⟨b, rfl, hb⟩ := fitsR_bytes g2
  obtain ⟨n, rfl, w⟩ := Fits_int g3
  obtain ⟨l, rfl, -⟩ := fitsR_ints g4
  have := wf_i64 w
  cases a with
  | bool t => exact ⟨⟨t, b, n, l⟩, rfl, hb, this.1, this.2⟩
  | int k n => simp [Fits] at g1
  | str s => simp [Fits] at g1
  | sl sz ds => simp [Fits] at g1
theorem fitsR_deeds {d : List D} (h : FitsL d [.sl 4 deedTy]) : ∃ l : List Deed, d = [.sl 4 (l.map Deed.c)] ∧ ∀ x ∈ l, bytesOk x.data ∧ -9223372036854775808 ≤ x.cut ∧ x.cut ≤ 9223372036854775807 := by
  obtain ⟨_, _, rfl, g1, h⟩ := FitsL_cons h
  cases FitsL_nil h
  obtain ⟨es, rfl, h1⟩ := Fits_sl g1
  obtain ⟨l, rfl, hl⟩ := FitsLL_mapR (f := Deed.c) (R := fun x => bytesOk x.data ∧ -9223372036854775808 ≤ x.cut ∧ x.cut ≤ 9223372036854775807) (fun d hd => fitsR_deed hd) h1
  exact ⟨l, rfl, hl⟩

end Glb
