/-
  A library of its own.
-/
import Derived.Test.YtdeiamnhnfmilaaGreatGlbConA
set_option linter.unusedSimpArgs false
set_option linter.unusedVariables false
set_option maxRecDepth 10000
set_option maxHeartbeats 8000000
namespace Glb
open Go
attribute [go_sem] Jw
theorem Eo {x:fI}{F:Nat->Prop}{h:fu}{a:List AV}(hh:fU x.c F h a):∃o n e,a=[o,n,e]/\fA (f_ x.aA) F h o/\fA (f_ x.aC) F h n/\fA (f_ x.aD) F h e:=by simp only[fI.c,fU]at hh;obtain⟨o,_,rfl,ho,n,_,rfl,hn,e,_,rfl,he,rfl⟩:=hh;exact⟨o,n,e,rfl,ho,hn,he⟩
theorem kM.aA {l:List Int}(h:kM l):l.Nodup:=h.imp λa=>ω
theorem vI.g {P:Program}{f:FuncId}(hc:vI P f){F:Nat->Prop}{h:fu}{x:fI}{a:List AV}(ha:fH F h x.c a)(hl:x.aH (2^40)):fO P f [.aF a] h λr h'=>r=.aF x.v/\h'=h:=
 (hc.2 F h x a ha hl.1 hl.2.1 hl.2.2).aC λ_ _ ⟨o,n,e,h1,h2,h3,h4,h5⟩=>⟨h5,_,h1▸iu.aA (fU.fz x.c (λ_ x=>x) _ (En h2 h3 h4)),rfl⟩
theorem EE:∀{l:List Int}{p:Option Int},lI p l=true↔kM l/\(∀y,p=some y->∀m∈l,y<m)/\∀m∈l,1<=m/\m<=7
 | l,p=>by
  refine⟨rU,?_⟩;induction l generalizing p with
  | nil=>intro _;rfl
  | cons x r ih=>
   rintro⟨h1,h2,h3⟩;have h4:=Y_.1 h1;have h5:=h3 x ς;simp only[lI,Xs,Zw,YU,Ym];refine⟨⟨⟨ω,ω⟩,?_⟩,ih _ ⟨h4.2,λy hy m hm=>?_,λm hm=>h3 m (by simp[hm])⟩⟩
   ·cases p with
    | none=>rfl
    | some y=>have:=h2 y rfl x ς;simp;omega
   ·cases hy;exact h4.1 m hm
theorem xb {x:fI}:x.aF=true↔x.aA≠[]/\(kM x.aA/\∀m∈x.aA,1<=m/\m<=7)/\(kM x.aC/\∀m∈x.aC,1<=m/\m<=7)/\(kM x.aD/\∀m∈x.aD,1<=m/\m<=7)/\∀m∈x.aD,m∉x.aA/\m∉x.aC:=by
 constructor;·intro h;obtain⟨h0,h1,h2,h3,h4,h5,h6,h7⟩:=TK h;exact⟨λe=>h0 (by rw[e];rfl),⟨h1,h4⟩,⟨h2,h5⟩,⟨h3,h6⟩,h7⟩
 ·rintro⟨h0,⟨h1,h4⟩,⟨h2,h5⟩,⟨h3,h6⟩,h7⟩;have r1:lI none x.aA=true:=EE.2 ⟨h1,ς,h4⟩;have r2:lI none x.aC=true:=EE.2 ⟨h2,ς,h5⟩;have r3:lI none x.aD=true:=EE.2 ⟨h3,ς,h6⟩;have r4:x.aD.any x.aK=false:=by rw[<-Bool.not_eq_true,Zr];rintro⟨n,g1,g2⟩;have:=h7 n g1;simp[fI.aK,this.1,this.2]at g2
  have r0:x.aA.length≠0:=λe=>h0 (W5 e);simp[fI.aQ,r0,r1,r2,r3,r4]
end Glb
