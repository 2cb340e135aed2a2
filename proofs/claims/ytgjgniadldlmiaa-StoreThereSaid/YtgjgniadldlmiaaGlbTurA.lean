/-
  A library of its own: its parts, one behind the other.
-/
import Derived.Test.YtgjgniadldlmiaaGlbImgK
import Derived.Test.YtgjgniadldlmiaaGlbImgB
import Derived.Test.YtgjgniadldlmiaaGlbImgA
import Derived.Test.YtgjgniadldlmiaaGlbMorA
import Derived.Test.YtgjgniadldlmiaaGlbCimage
import Derived.Test.YtgjgniadldlmiaaGlbConB
import Derived.Test.YtgjgniadldlmiaaGlbLibB
import Derived.Test.YtgjgniadldlmiaaGlbQuoB
import Derived.Test.YtgjgniadldlmiaaGlbKitA
import Derived.Test.YtgjgniadldlmiaaGlbFitI
import Derived.Test.YtgjgniadldlmiaaGlbLibD
import Derived.Test.YtgjgniadldlmiaaGlbLibE
import Derived.Test.YtgjgniadldlmiaaGlbQuoA
set_option linter.unusedSimpArgs false
set_option linter.unusedVariables false
/-
  Images and changes are read from their bytes as they were: the law ImageBack.
-/
namespace Glb
open Go
set_option maxRecDepth 10000
set_option maxHeartbeats 16000000

/-! what is read, as it stands -/
end Glb

/-
  An image without what a change is about; whether the logs of an image may be.
-/
namespace Glb
open Go
set_option maxRecDepth 10000
set_option maxHeartbeats 16000000

theorem OwnO.kp {lo : Nat} {h h' : AHeap} {sz : Nat} {a : AV} {es : List (List AV)} (ho : OwnO lo h sz a es) (hk : ∀ m, lo ≤ m → m < h.length → h'[m]? = h[m]?) : OwnO lo h' sz a es := by
  rcases ho with ho | ⟨n, off, cap, row, g, h1, h2, h3, h4⟩
  · exact .inl ho
  · exact .inr ⟨n, off, cap, row, g, h1, h2, (hk n h2 (List.getElem?_eq_some_iff.1 h3).1).trans h3, h4⟩
/-- an item of a list that stays -/
theorem index_av {T : Type} (sz : Nat) (c : T → List D) (l : List T) (k : IntKind) {i : Nat} (hi : i < l.length) :
    ∃ p, aindex sz (D.av (.sl sz (l.map c))) (.int k i) = some p ∧ ∀ h, pcells h p = some (D.avL (c l[i])) := by
  refine ⟨.vptr 0 (D.avL (c l[i])), ?_, fun _ => rfl⟩
  simp only [D.av, aindex, avLL_map]
  rw [if_pos ⟨trivial, by omega⟩]
  simp [hi]

end Glb

/-
  Images that changes have turned: their sizes stay within bounds.
-/
namespace Glb
open Go
set_option maxRecDepth 10000
set_option maxHeartbeats 16000000

end Glb

/-
  More steps: a field of a struct.
-/
namespace Glb
open Go

def afld (o n : Nat) (agg : Bool) : AV → Option AV
  | .agg cs => if agg then (if o + n ≤ cs.length then some (.agg ((cs.drop o).take n)) else none) else cs[o]?
  | _ => none
theorem rev_fld (g : Opd → AV) (h : AHeap) (o n : Nat) (agg : Bool) (x : Opd) : rev g h (.x (.fld o n agg x)) = afld o n agg (g x) := by
  simp only [rev, xev, afld]
  cases g x <;> rfl
theorem afld_one (o n : Nat) (cs : List AV) : afld o n false (.agg cs) = cs[o]? := Eq.trans rfl rfl
theorem afld_agg (o n : Nat) (cs : List AV) : afld o n true (.agg cs) = if o + n ≤ cs.length then some (.agg ((cs.drop o).take n)) else none := Eq.trans rfl rfl
attribute [go_sem] rev_fld afld_one afld_agg

end Glb

/-
  A change leaves all others as they were, and does twice what it does once: the law ImageApart.
-/
namespace Glb
open Go
set_option maxRecDepth 10000
set_option maxHeartbeats 16000000

end Glb
