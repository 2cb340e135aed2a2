/-
  Images and changes are read from their bytes as they were: the law ImageBack.
-/
import Derived.Test.YtodbhmdfmdfiaaaGlbLaw13c
import Derived.Test.YtodbhmdfmdfiaaaGlbImgX
import Derived.Test.YtodbhmdfmdfiaaaGlbQuoA
set_option linter.unusedSimpArgs false
set_option linter.unusedVariables false
namespace Glb
open Go
set_option maxRecDepth 10000
set_option maxHeartbeats 16000000

/-! what is read, as it stands -/
theorem GetImgOk.p {P : Program} {f : FuncId} (hc : GetImgOk P f) {G : Nat → Prop} {h : AHeap} {l : List Int} {b : AV} (hb : Rd G h (dBytes l) b) (hbo : bytesOk l) (hl : l.length ≤ 2^37) :
    ACalls P f [b] h fun r h' => r = .tup [.agg (getImage l).1.v, .int .i64 (getImage l).2] ∧ h' = h :=
  (hc.2 G h l b hb hbo hl).freeze fun _ _ ⟨_, h1, h2, h3⟩ => ⟨h3, _, h1 ▸ Frz.tup2 (Frz.aggD (OwnL.fz _ (fun _ x => x) _ h2)) (Frz.int _ _), rfl⟩
theorem GetChsOk.p {P : Program} {f : FuncId} (hc : GetChsOk P f) {G : Nat → Prop} {h : AHeap} {l : List Int} {b : AV} (hb : Rd G h (dBytes l) b) (hbo : bytesOk l) (hl : l.length ≤ 2^37) :
    ACalls P f [b] h fun r h' => r = .tup [achanges (getChanges l).1, .int .i64 (getChanges l).2] ∧ h' = h :=
  (hc.2 G h l b hb hbo hl).freeze fun _ _ ⟨_, h1, h2, h3⟩ => ⟨h3, _, h1 ▸ Frz.tup2 (Frz.d (Own.fz (dChanges _) (fun _ x => x) _ h2)) (Frz.int _ _), rfl⟩

end Glb
