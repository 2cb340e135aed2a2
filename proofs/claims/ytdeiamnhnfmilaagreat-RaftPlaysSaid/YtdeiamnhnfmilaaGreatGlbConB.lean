/-
  A library of its own.
-/
import Derived.Test.YtdeiamnhnfmilaaGreatGlbConA
set_option linter.unusedSimpArgs false
set_option linter.unusedVariables false
set_option maxRecDepth 10000
set_option maxHeartbeats 8000000
namespace Glb
open Go
attribute [go_sem] Im
theorem Qt {x:fG}{F:Nat->Prop}{h:eZ}{a:List AV}(hh:fW x.c F h a):∃o n e,a=[o,n,e]/\e_ (fK x.aA) F h o/\e_ (fK x.aB) F h n/\e_ (fK x.aC) F h e:=by simp only[fG.c,fW]at hh;obtain⟨o,_,rfl,ho,n,_,rfl,hn,e,_,rfl,he,rfl⟩:=hh;exact⟨o,n,e,rfl,ho,hn,he⟩
theorem ot.g {P:Program}{f:FuncId}(hc:ot P f){F:Nat->Prop}{h:eZ}{x:fG}{a:List AV}(ha:fu F h x.c a)(hl:x.aF (2^40)):fy P f [.aE a] h λr h'=>r=.aE x.v/\h'=h:=
 (hc.2 F h x a ha hl.1 hl.2.1 hl.2.2).aB λ_ _ ⟨o,n,e,h1,h2,h3,h4,h5⟩=>⟨h5,_,h1▸gM.aA (fW.fz x.c (λ_ x=>x) _ (xu h2 h3 h4)),rfl⟩
theorem Di:∀{l:List Int}{p:Option Int},je p l=true↔jO l/\(∀y,p=some y->∀m∈l,y<m)/\∀m∈l,1<=m/\m<=7
 | l,p=>by
  refine⟨pU,?_⟩;induction l generalizing p with
  | nil=>intro _;rfl
  | cons x r ih=>
   rintro⟨h1,h2,h3⟩;have h4:=WN.1 h1;have h5:=h3 x (by simp);simp only[je,VF,Bool.not_eq_true',WI,Wv];refine⟨⟨⟨by omega,by omega⟩,?_⟩,ih _ ⟨h4.2,λy hy m hm=>?_,λm hm=>h3 m (by simp[hm])⟩⟩
   ·cases p with
    | none=>rfl
    | some y=>have:=h2 y rfl x (by simp);simp;omega
   ·cases hy;exact h4.1 m hm
theorem Iq {x:fG}:x.aI=true↔x.aA≠[]/\(jO x.aA/\∀m∈x.aA,1<=m/\m<=7)/\(jO x.aB/\∀m∈x.aB,1<=m/\m<=7)/\(jO x.aC/\∀m∈x.aC,1<=m/\m<=7)/\∀m∈x.aC,m∉x.aA/\m∉x.aB:=by
 constructor;·intro h;obtain⟨h0,h1,h2,h3,h4,h5,h6,h7⟩:=Sb h;exact⟨λe=>h0 (by rw[e];rfl),⟨h1,h4⟩,⟨h2,h5⟩,⟨h3,h6⟩,h7⟩
 ·rintro⟨h0,⟨h1,h4⟩,⟨h2,h5⟩,⟨h3,h6⟩,h7⟩;have r1:je none x.aA=true:=Di.2 ⟨h1,by simp,h4⟩;have r2:je none x.aB=true:=Di.2 ⟨h2,by simp,h5⟩;have r3:je none x.aC=true:=Di.2 ⟨h3,by simp,h6⟩;have r4:x.aC.any x.aJ=false:=by rw[<-Bool.not_eq_true,Xh];rintro⟨n,g1,g2⟩;have:=h7 n g1;simp[fG.aJ,this.1,this.2]at g2
  have r0:x.aA.length≠0:=λe=>h0 (Vl e);simp[fG.aM,r0,r1,r2,r3,r4]
end Glb
