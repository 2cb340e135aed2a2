/-
  A library of its own.
-/
import Derived.Test.YtdeiamnhnfmilaaGreatGlbConB
import Derived.Shelf.Slices.Clone
set_option linter.unusedSimpArgs false
set_option linter.unusedVariables false
set_option maxRecDepth 10000
set_option maxHeartbeats 16000000
namespace Glb
open Go
theorem NF {P:Program}{ρ:Go.Shelf.Ren}(L:Go.Proofs.Lays2.n15 P ρ):xw P (ρ.f 15):=by
 refine⟨λa c w=>(Go.Proofs.Any.slices_Clone_int_zero L a c w).mono ?_⟩;rintro e w' ⟨v,he,u,E,hb⟩;rcases u.2 with⟨h1,_⟩ | ⟨g,cap,cur,h1,_⟩;·exact absurd h1 E
 ·subst h1;exact⟨_,_,he,rfl,⟨hb.os,hb.output,hb.size,λa ha=>World.frozen?_of_block (hb.block _ ha)⟩,hb.block⟩
end Glb
