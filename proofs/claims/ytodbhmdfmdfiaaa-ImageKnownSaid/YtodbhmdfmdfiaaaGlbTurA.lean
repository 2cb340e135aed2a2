/-
  A library of its own: its parts, one behind the other.
-/
import Derived.Test.YtodbhmdfmdfiaaaGlbLaw13c
import Derived.Test.YtodbhmdfmdfiaaaGlbImgX
import Derived.Test.YtodbhmdfmdfiaaaGlbQuoA
import Derived.Test.YtodbhmdfmdfiaaaGlbLaw13a
import Derived.Test.YtodbhmdfmdfiaaaGlbMorA
set_option linter.unusedSimpArgs false
set_option linter.unusedVariables false
/-
  Images and changes are read from their bytes as they were: the law ImageBack.
-/
namespace Glb
open Go
set_option maxRecDepth 10000
set_option maxHeartbeats 16000000

/-! what is read, as it stands -/
theorem GetImgOk.p {P : Program} {f : FuncId} (hc : GetImgOk P f) {G : Nat → Prop} {h : AHeap} {l : List Int} {b : AV} (hb : Rd G h (dBytes l) b) (hbo : bytesOk l) (hl : l.length ≤ 2^37) :
    ACalls P f [b] h fun r h' => r = .tup [.agg (getImage l).1.v, .int .i64 (getImage l).2] ∧ h' = h :=
  (hc.2 G h l b hb hbo hl).freeze fun _ _ ⟨_, h1, h2, h3⟩ => ⟨h3, _, h1 ▸ Frz.tup2 (Frz.aggD (OwnL.fz _ (fun _ x => x) _ h2)) (Frz.int _ _), rfl⟩
end Glb

/-
  An image without what a change is about; whether the logs of an image may be.
-/
namespace Glb
open Go
set_option maxRecDepth 10000
set_option maxHeartbeats 16000000

end Glb

/-
  Images that changes have turned: their sizes stay within bounds.
-/
namespace Glb
open Go
set_option maxRecDepth 10000
set_option maxHeartbeats 16000000

end Glb

/-
  More steps: a field of a struct.
-/
namespace Glb
open Go

def afld (o n : Nat) (agg : Bool) : AV → Option AV
  | .agg cs => if agg then (if o + n ≤ cs.length then some (.agg ((cs.drop o).take n)) else none) else cs[o]?
  | _ => none
theorem rev_fld (g : Opd → AV) (h : AHeap) (o n : Nat) (agg : Bool) (x : Opd) : rev g h (.x (.fld o n agg x)) = afld o n agg (g x) := by
  simp only [rev, xev, afld]
  cases g x <;> rfl
theorem afld_one (o n : Nat) (cs : List AV) : afld o n false (.agg cs) = cs[o]? := Eq.trans rfl rfl
theorem afld_agg (o n : Nat) (cs : List AV) : afld o n true (.agg cs) = if o + n ≤ cs.length then some (.agg ((cs.drop o).take n)) else none := Eq.trans rfl rfl
attribute [go_sem] rev_fld afld_one afld_agg

end Glb

/-
  A change leaves all others as they were, and does twice what it does once: the law ImageApart.
-/
namespace Glb
open Go
set_option maxRecDepth 10000
set_option maxHeartbeats 16000000

end Glb
