/-
  A library of its own.
-/
import Derived.Test.YtdeiamnhnfmilaaGreatGlbConA
set_option linter.unusedSimpArgs false
set_option linter.unusedVariables false
set_option maxRecDepth 10000
set_option maxHeartbeats 8000000
namespace Glb
open Go
attribute [go_sem] s_b
theorem c_1 {x:e3_}{F:Nat->Prop}{h:a0_}{a:List AV}(hh:g2_ x.c F h a):∃o n e,a=[o,n,e]/\Own (b1_ x.old) F h o/\Own (b1_ x.new) F h n/\Own (b1_ x.learners) F h e:=by
 simp only[e3_.c,g2_]at hh
 obtain⟨o,_,rfl,ho,n,_,rfl,hn,e,_,rfl,he,rfl⟩:=hh
 exact⟨o,n,e,rfl,ho,hn,he⟩
theorem f_7:∀{l:List Int}{p:Option Int},rise p l=true↔H2_ l/\(∀y,p=some y->∀m∈l,y<m)/\∀m∈l,1<=m/\m<=7
 | l,p=>by
  refine⟨y6_,?_⟩
  induction l generalizing p with
  | nil=>intro _;rfl
  | cons x r ih=>
   rintro⟨h1,h2,h3⟩
   have h4:=L_0.1 h1
   have h5:=h3 x (by simp)
   simp only[rise,K_g,Bool.not_eq_true',L_u,decide_eq_false_iff_not]
   refine⟨⟨⟨by omega,by omega⟩,?_⟩,ih _ ⟨h4.2,λy hy m hm=>?_,λm hm=>h3 m (by simp[hm])⟩⟩
   ·cases p with
    | none=>rfl
    | some y=>have:=h2 y rfl x (by simp);simp;omega
   ·cases hy;exact h4.1 m hm
theorem W0_ {x:e3_}:x.right=true↔x.old≠[]/\(H2_ x.old/\∀m∈x.old,1<=m/\m<=7)/\(H2_ x.new/\∀m∈x.new,1<=m/\m<=7)/\(H2_ x.learners/\∀m∈x.learners,1<=m/\m<=7)/\∀m∈x.learners,m∉x.old/\m∉x.new:=by
 constructor
 ·intro h
  obtain⟨h0,h1,h2,h3,h4,h5,h6,h7⟩:=o_7 h
  exact⟨λe=>h0 (by rw[e];rfl),⟨h1,h4⟩,⟨h2,h5⟩,⟨h3,h6⟩,h7⟩
 ·rintro⟨h0,⟨h1,h4⟩,⟨h2,h5⟩,⟨h3,h6⟩,h7⟩
  have r1:rise none x.old=true:=f_7.2 ⟨h1,by simp,h4⟩
  have r2:rise none x.new=true:=f_7.2 ⟨h2,by simp,h5⟩
  have r3:rise none x.learners=true:=f_7.2 ⟨h3,by simp,h6⟩
  have r4:x.learners.any x.votes=false:=by
   rw[<-Bool.not_eq_true,M_m]
   rintro⟨n,g1,g2⟩
   have:=h7 n g1
   simp[e3_.votes,this.1,this.2]at g2
  have r0:x.old.length≠0:=λe=>h0 (J_3 e)
  simp[e3_.right_eq,r0,r1,r2,r3,r4]
end Glb
