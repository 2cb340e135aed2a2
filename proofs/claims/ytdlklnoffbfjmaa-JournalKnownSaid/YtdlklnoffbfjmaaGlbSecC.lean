/-
  A library of its own: its parts, one behind the other.
-/
import Derived.Test.YtdlklnoffbfjmaaGlbSecA
import Derived.Test.YtdlklnoffbfjmaaGlbSecB
import Derived.Test.YtdlklnoffbfjmaaGlbTurA
import Derived.Test.YtdlklnoffbfjmaaGlbImgB
import Derived.Test.YtdlklnoffbfjmaaGlbImgA
import Derived.Test.YtdlklnoffbfjmaaGlbMorA
import Derived.Test.YtdlklnoffbfjmaaGlbCimage
import Derived.Test.YtdlklnoffbfjmaaGlbConB
import Derived.Test.YtdlklnoffbfjmaaGlbLibB
import Derived.Test.YtdlklnoffbfjmaaGlbQuoB
import Derived.Test.YtdlklnoffbfjmaaGlbQuoA
import Derived.Test.YtdlklnoffbfjmaaGlbKnown13
import Derived.Test.YtdlklnoffbfjmaaGlbKitA
set_option linter.unusedSimpArgs false
set_option linter.unusedVariables false
/-
  Layer 4: what the laws call.
-/
namespace Glb
open Go
set_option maxRecDepth 10000
set_option maxHeartbeats 8000000

theorem rev_peq (g : Opd → AV) (h : AHeap) (neg : Bool) (x : Opd) : rev g h (.x (.peq neg x)) = (pnil (g x)).map fun b => .bool (b != neg) := Eq.trans rfl rfl
theorem pnil_ptr (n sz i o : Nat) : pnil (.ptr n sz i o) = some false := Eq.trans rfl rfl
theorem pnil_nil : pnil (.raw (.pointer none)) = some true := Eq.trans rfl rfl

end Glb

/-
  Layer 4: works.
-/
namespace Glb
open Go
set_option maxRecDepth 10000
set_option maxHeartbeats 8000000

def ReadDP (P : Program) (f : FuncId) : Prop := isFn P f = true ∧ ∀ (F : Nat → Prop) (h : AHeap) (p : Nat) (d : Dk) (i : Int), DiskAt F h p d →
  ACalls P f [.ptr p 6 0 0, .int .i64 i] h fun r h' => r = .tup [abytes (d.read i).1, .int .i64 (d.read i).2] ∧ h' = h
theorem ReadDOk.p {P : Program} {f : FuncId} (hc : ReadDOk P f) : ReadDP P f :=
  ⟨hc.1, fun F h p d i ha => (hc.2 F h p d i ha).freeze fun _ _ ⟨a, e, ho, hx⟩ => ⟨hx, _, e ▸ Frz.tup2 (Frz.d (Own.fz (dBytes _) (fun _ x => x) _ ho)) (Frz.int _ _), rfl⟩⟩

theorem rd_litF {F : Nat → Prop} {H : AHeap} {n : Nat} {k : IntKind} {xs : List Int} {g : Bool} {len : Nat} (hb : H[n]? = some (some (.arr 1 (xs.map fun n => [AV.int k n]) g))) (hl : xs.length = len) (hF : F n) :
    Rd F H (.sl 1 (xs.map fun n => [.int k n])) (.ref n 1 0 len (some len)) := by
  simp only [Rd]
  refine ⟨xs.map fun n => [AV.int k n], .inr (.inr ⟨n, 0, len, some len, _, g, rfl, hF, hb, by simp; omega, fun c hc => by cases hc; omega, ?_⟩), ?_⟩
  · subst hl
    rw [List.drop_zero, List.take_of_length_le (by simp)]
  · exact OwnLL.rd (F := F) _ (fun _ x => x) _ (ownLL_ints k F H xs)

end Glb

/-
  Layer 4: both and Looks.
-/
namespace Glb
open Go
set_option maxRecDepth 10000
set_option maxHeartbeats 8000000

end Glb

/-
  Layer 4: the law SectorRuns.
-/
namespace Glb
open Go
set_option maxRecDepth 10000
set_option maxHeartbeats 8000000

end Glb
