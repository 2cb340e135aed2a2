/-
  A library of its own.
-/
import Derived.Test.YtdeiamnhnfmilaaGreatGlbImgA
import Derived.Test.YtdeiamnhnfmilaaGreatGlbConB
set_option linter.unusedSimpArgs false
set_option linter.unusedVariables false
set_option maxRecDepth 10000
set_option maxHeartbeats 8000000
namespace Glb
open Go
def x1_.v (x:x1_):List AV:=D.avL x.c
def u_p (l:List v3_):AV:=(A9_ l).av
def u_x (l:List d7_):AV:=(d_t l).av
def h_a (l:List b9_):AV:=(F6_ l).av
theorem f_2 (l:List v3_):(u_p l).scalar=true:=j7_ _
theorem f_3 (l:List d7_):(u_x l).scalar=true:=j7_ _
theorem c_p (l:List b9_):(h_a l).scalar=true:=j7_ _
theorem k_b (l:List v3_):(u_p l).cells?=some [u_p l]:=b5_ (j7_ _)
theorem k_c (l:List d7_):(u_x l).cells?=some [u_x l]:=b5_ (j7_ _)
theorem e_v (l:List b9_):(h_a l).cells?=some [h_a l]:=b5_ (j7_ _)
attribute [go_sem] f_2 f_3 c_p k_b k_c e_v
def x1_.few (x:x1_):Prop:=x.hards.length<=2^30/\x.votes.length<=2^30/\∀y∈x.hards,y.few
theorem f_i {T:Type}(e:T->List Int)(n:Nat):∀xs:List T,(∀x∈xs,(e x).length<=n)->(xs.flatMap e).length<=xs.length*n
 | [],_=>by simp
 | x :: r,h=>by
  have h1:=f_i e n r (λy hy=>h y (by simp[hy]))
  have h2:=h x (by simp)
  simp only[L_6,J_z,List.length_cons,L_1];omega
end Glb
