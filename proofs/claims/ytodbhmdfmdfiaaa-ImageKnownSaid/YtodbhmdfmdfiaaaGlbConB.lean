/-
  A library of its own: its parts, one behind the other.
-/
import Derived.Test.YtodbhmdfmdfiaaaGlbConA
set_option linter.unusedSimpArgs false
set_option linter.unusedVariables false
/-
  What follows: the program's function and the document's.
-/
namespace Glb
open Go
set_option maxRecDepth 10000
set_option maxHeartbeats 8000000

attribute [go_sem] rev_clo

theorem own_confL {x : Conf} {F : Nat → Prop} {h : AHeap} {a : List AV} (hh : OwnL x.c F h a) : ∃ o n e, a = [o, n, e] ∧ Own (dInts x.old) F h o ∧ Own (dInts x.new) F h n ∧ Own (dInts x.learners) F h e := by
  simp only [Conf.c, OwnL] at hh
  obtain ⟨o, _, rfl, ho, n, _, rfl, hn, e, _, rfl, he, rfl⟩ := hh
  exact ⟨o, n, e, rfl, ho, hn, he⟩

end Glb
/-
  What follows, by the document; the steps as plain data.
-/
namespace Glb
open Go
set_option maxRecDepth 10000
set_option maxHeartbeats 8000000

end Glb
