/-
  A library of its own: its parts, one behind the other.
-/
import Derived.Test.YtdeiamnhnfmilaaGreatGlbConB
import Derived.Test.YtdeiamnhnfmilaaGreatGlbLibB
import Derived.Test.YtdeiamnhnfmilaaGreatGlbQuoA
import Derived.Test.YtdeiamnhnfmilaaGreatGlbQuoB
import Derived.Test.YtdeiamnhnfmilaaGreatGlbKitB
import Derived.Test.YtdeiamnhnfmilaaGreatGlbConA
import Derived.Shelf.Slices.Clone
set_option linter.unusedSimpArgs false
set_option linter.unusedVariables false
namespace Glb
open Go
set_option maxRecDepth 10000
set_option maxHeartbeats 16000000
end Glb
namespace Glb
open Go
set_option maxRecDepth 10000
set_option maxHeartbeats 16000000
end Glb
namespace Glb
open Go
theorem cloneKit {P : Program} {ρ : Go.Shelf.Ren} (L : Go.Proofs.Lays2.n15 P ρ) : CloneKit P (ρ.f 15) := by
 refine ⟨fun a c w => (Go.Proofs.Any.slices_Clone_int_zero L a c w).mono ?_⟩
 rintro e w' ⟨v, he, hown, hne, hb⟩
 rcases hown.2 with ⟨h1, _⟩ | ⟨g, cap, cur, h1, _⟩
 ·exact absurd h1 hne
 ·subst h1
  exact ⟨_, _, he, rfl, ⟨hb.os, hb.output, hb.size, fun a ha => World.frozen?_of_block (hb.block _ ha)⟩, hb.block⟩
end Glb
