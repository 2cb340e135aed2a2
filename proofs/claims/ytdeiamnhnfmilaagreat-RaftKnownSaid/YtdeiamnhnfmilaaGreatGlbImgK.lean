/-
  A library of its own: its parts, one behind the other.
-/
import Derived.Test.YtdeiamnhnfmilaaGreatGlbImgA
import Derived.Test.YtdeiamnhnfmilaaGreatGlbKitB
import Derived.Test.YtdeiamnhnfmilaaGreatGlbLibB
import Derived.Test.YtdeiamnhnfmilaaGreatGlbConB
set_option linter.unusedSimpArgs false
set_option linter.unusedVariables false
namespace Glb
open Go
set_option maxRecDepth 10000
set_option maxHeartbeats 8000000
def avotes (l : List Vote) : AV := (dVotes l).av
def ahards (l : List Hard) : AV := (dHards l).av
def achanges (l : List Change) : AV := (dChanges l).av
theorem scalar_avotes (l : List Vote) : (avotes l).scalar = true := av_scalar _
theorem scalar_ahards (l : List Hard) : (ahards l).scalar = true := av_scalar _
theorem scalar_achanges (l : List Change) : (achanges l).scalar = true := av_scalar _
theorem cells_avotes (l : List Vote) : (avotes l).cells? = some [avotes l] := cells_of (av_scalar _)
theorem cells_ahards (l : List Hard) : (ahards l).cells? = some [ahards l] := cells_of (av_scalar _)
theorem cells_achanges (l : List Change) : (achanges l).cells? = some [achanges l] := cells_of (av_scalar _)
attribute [go_sem] scalar_avotes scalar_ahards scalar_achanges cells_avotes cells_ahards cells_achanges
end Glb
namespace Glb
open Go
set_option maxRecDepth 10000
set_option maxHeartbeats 8000000
end Glb
