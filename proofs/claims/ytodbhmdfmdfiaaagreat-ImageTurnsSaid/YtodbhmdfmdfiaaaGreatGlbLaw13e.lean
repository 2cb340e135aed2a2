/-
  A change leaves all others as they were, and does twice what it does once: the law ImageApart.
-/
import Derived.Test.YtodbhmdfmdfiaaaGreatGlbLaw13d
import Derived.Test.YtodbhmdfmdfiaaaGreatGlbMore2
set_option linter.unusedSimpArgs false
set_option linter.unusedVariables false
namespace Glb
open Go
set_option maxRecDepth 10000
set_option maxHeartbeats 16000000

theorem applied_no {x : Image} {c : Change} (h : (x.applied c).2 ≠ 0) : (x.applied c).1 = ⟨[], []⟩ := by
  simp only [Image.applied] at h ⊢
  split
  · rfl
  · rename_i k0
    rw [if_neg k0] at h
    split
    · rename_i k4; rw [if_pos k4] at h; exact absurd rfl h
    · rename_i k4
      rw [if_neg k4] at h
      cases ht : turnIn x.hards c with
      | none => rfl
      | some p =>
        obtain ⟨l, e⟩ := p
        rw [ht] at h
        simp only at h ⊢
        by_cases he : e ≠ 0
        · rw [if_pos he]
        · rw [if_neg he] at h; exact absurd rfl h

end Glb
