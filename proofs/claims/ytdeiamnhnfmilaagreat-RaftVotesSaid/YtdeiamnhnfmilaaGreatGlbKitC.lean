/-
  A library of its own.
-/
import Derived.Test.YtdeiamnhnfmilaaGreatGlbImgK
import Derived.Test.YtdeiamnhnfmilaaGreatGlbImgE
import Derived.Test.YtdeiamnhnfmilaaGreatGlbFitI
set_option linter.unusedSimpArgs false
set_option linter.unusedVariables false
set_option maxRecDepth 10000
set_option maxHeartbeats 16000000
namespace Glb
open Go
def b9_.few (x:b9_):Prop:=i0_ x.log.es/\x.conf.few (2^40)/\x.snap.length<=2^40
theorem A_v {n m:Nat}(h:n<=m)(hm:m<=9223372036854775807:=by decide):n<=9223372036854775807:=K_e h hm
theorem t_7 {e:e0_}(h:e.R)(hl:e.data.length<=2^40):v7_.ok e:=⟨h.1,h.2.1,A_v hl,h.2.2⟩
theorem s_7 {x:Log}(h:x.R)(hl:i0_ x.es):C6_.ok x:=⟨h.1,h.2.1,A_v hl.1,λe he=>t_7 (h.2.2 e he) (hl.2 e he)⟩
theorem g_v {l:List Int}(h:t_o l)(hl:l.length<=2^40):p_z.ok l:=⟨A_v hl,h⟩
theorem n_z {x:e3_}(h:x.R)(hl:x.few (2^40)):j3_.ok x:=⟨g_v h.1 hl.1,g_v h.2.1 hl.2.1,g_v h.2.2 hl.2.2⟩
theorem n_g {x:v3_}(h:x.R):v9_.ok x:=h
theorem x_c {x:d7_}(h:x.R)(hl:x.few):D0_.ok x:=⟨h.1,h.2.1,h.2.2.1,s_7 h.2.2.2.1 hl.1,n_z h.2.2.2.2.1 hl.2.1,A_v hl.2.2,h.2.2.2.2.2⟩
theorem p_9 {x:b9_}(h:x.R)(hl:x.few):o9_.ok x:=⟨h.1,h.2.1,h.2.2.1,h.2.2.2.1,h.2.2.2.2.1,s_7 h.2.2.2.2.2.1 hl.1,n_z h.2.2.2.2.2.2.1 hl.2.1,⟨A_v hl.2.2,h.2.2.2.2.2.2.2.1⟩,n_g h.2.2.2.2.2.2.2.2⟩
theorem t_q {x:x1_}(h:x.R)(hl:x.few):x4_.ok x:=⟨⟨A_v hl.1,λy hy=>x_c (h.1 y hy) (hl.2.2 y hy)⟩,⟨A_v hl.2.1,λy hy=>n_g (h.2 y hy)⟩⟩
end Glb
