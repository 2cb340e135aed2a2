/-
  A library of its own: its parts, one behind the other.
-/
import Derived.Test.YthbhbgnngmfpiaaGlbImgA
import Derived.Test.YthbhbgnngmfpiaaGlbKitB
import Derived.Test.YthbhbgnngmfpiaaGlbCkit2
import Derived.Test.YthbhbgnngmfpiaaGlbConB
import Derived.Test.YthbhbgnngmfpiaaGlbLibB
set_option linter.unusedSimpArgs false
set_option linter.unusedVariables false
/-
  Images copied, held against one another.
-/
namespace Glb
open Go
set_option maxRecDepth 10000
set_option maxHeartbeats 8000000

def avotes (l : List Vote) : AV := (dVotes l).av
def ahards (l : List Hard) : AV := (dHards l).av
def achanges (l : List Change) : AV := (dChanges l).av
theorem scalar_avotes (l : List Vote) : (avotes l).scalar = true := av_scalar _
theorem scalar_ahards (l : List Hard) : (ahards l).scalar = true := av_scalar _
theorem scalar_achanges (l : List Change) : (achanges l).scalar = true := av_scalar _
theorem cells_avotes (l : List Vote) : (avotes l).cells? = some [avotes l] := cells_of (av_scalar _)
theorem cells_ahards (l : List Hard) : (ahards l).cells? = some [ahards l] := cells_of (av_scalar _)
theorem cells_achanges (l : List Change) : (achanges l).cells? = some [achanges l] := cells_of (av_scalar _)
attribute [go_sem] scalar_avotes scalar_ahards scalar_achanges cells_avotes cells_ahards cells_achanges

theorem CopyOk.gb {P : Program} {f : FuncId} (hc : CopyOk P f .u8) {F : Nat → Prop} {h : AHeap} {l : List Int} {a : AV} (ha : Rd F h (dBytes l) a) (hl : l.length ≤ 2^40) : ACalls P f [a] h fun r h' => r = abytes l ∧ h' = h :=
  (hc.2 F h l a ha hl).freeze fun _ _ hk => ⟨hk.2.2, _, Frz.d (Own.fz (dBytes l) (fun _ x => x) _ hk.1), rfl⟩
end Glb

/-
  Any image's bytes: the law.
-/
namespace Glb
open Go
set_option maxRecDepth 10000
set_option maxHeartbeats 8000000

end Glb
