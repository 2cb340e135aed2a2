/-
  An image without what a change is about; whether the logs of an image may be.
-/
import Derived.Test.YtodbhmdfmdfiaaaGreatGlbLaw13a
import Derived.Test.YtodbhmdfmdfiaaaGreatGlbLaw13b
set_option linter.unusedSimpArgs false
set_option linter.unusedVariables false
namespace Glb
open Go
set_option maxRecDepth 10000
set_option maxHeartbeats 16000000

theorem OwnO.kp {lo : Nat} {h h' : AHeap} {sz : Nat} {a : AV} {es : List (List AV)} (ho : OwnO lo h sz a es) (hk : ∀ m, lo ≤ m → m < h.length → h'[m]? = h[m]?) : OwnO lo h' sz a es := by
  rcases ho with ho | ⟨n, off, cap, row, g, h1, h2, h3, h4⟩
  · exact .inl ho
  · exact .inr ⟨n, off, cap, row, g, h1, h2, (hk n h2 (List.getElem?_eq_some_iff.1 h3).1).trans h3, h4⟩
/-- an item of a list that stays -/
theorem index_av {T : Type} (sz : Nat) (c : T → List D) (l : List T) (k : IntKind) {i : Nat} (hi : i < l.length) :
    ∃ p, aindex sz (D.av (.sl sz (l.map c))) (.int k i) = some p ∧ ∀ h, pcells h p = some (D.avL (c l[i])) := by
  refine ⟨.vptr 0 (D.avL (c l[i])), ?_, fun _ => rfl⟩
  simp only [D.av, aindex, avLL_map]
  rw [if_pos ⟨trivial, by omega⟩]
  simp [hi]

theorem Change.v_eq (x : Change) : x.v = x.cells (dEntries x.log.es).av (dInts x.conf.old).av (dInts x.conf.new).av (dInts x.conf.learners).av (dBytes x.snap).av := by simp only [Change.v, Change.c, D.avL, D.av, Change.cells]
theorem Change.v_sc (x : Change) : x.v.all AV.scalar = true := avL_scalars _
theorem Hard.v_sc (x : Hard) : x.v.all AV.scalar = true := avL_scalars _

end Glb
