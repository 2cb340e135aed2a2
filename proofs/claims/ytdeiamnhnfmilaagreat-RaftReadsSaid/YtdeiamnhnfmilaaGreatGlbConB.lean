/-
  A library of its own.
-/
import Derived.Test.YtdeiamnhnfmilaaGreatGlbConA
set_option linter.unusedSimpArgs false
set_option linter.unusedVariables false
set_option maxRecDepth 10000
set_option maxHeartbeats 8000000
namespace Glb
open Go
attribute [go_sem] Hi
theorem Cq {x:fq}{F:Nat->Prop}{h:eW}{a:List AV}(hh:fI x.c F h a):∃o n e,a=[o,n,e]/\eX (fM x.aA) F h o/\eX (fM x.aC) F h n/\eX (fM x.aD) F h e:=by simp only[fq.c,fI]at hh;obtain⟨o,_,rfl,ho,n,_,rfl,hn,e,_,rfl,he,rfl⟩:=hh;exact⟨o,n,e,rfl,ho,hn,he⟩
theorem jV.aA {l:List Int}(h:jV l):l.Nodup:=h.imp λa=>by omega
theorem t_.g {P:Program}{f:FuncId}(hc:t_ P f){F:Nat->Prop}{h:eW}{x:fq}{a:List AV}(ha:fm F h x.c a)(hl:x.aH (2^40)):fC P f [.aF a] h λr h'=>r=.aF x.v/\h'=h:=
 (hc.2 F h x a ha hl.1 hl.2.1 hl.2.2).aC λ_ _ ⟨o,n,e,h1,h2,h3,h4,h5⟩=>⟨h5,_,h1▸gY.aA (fI.fz x.c (λ_ x=>x) _ (Cp h2 h3 h4)),rfl⟩
theorem CF:∀{l:List Int}{p:Option Int},kI p l=true↔jV l/\(∀y,p=some y->∀m∈l,y<m)/\∀m∈l,1<=m/\m<=7
 | l,p=>by
  refine⟨qE,?_⟩;induction l generalizing p with
  | nil=>intro _;rfl
  | cons x r ih=>
   rintro⟨h1,h2,h3⟩;have h4:=Wb.1 h1;have h5:=h3 x (by simp);simp only[kI,US,Bool.not_eq_true',V3,VD];refine⟨⟨⟨by omega,by omega⟩,?_⟩,ih _ ⟨h4.2,λy hy m hm=>?_,λm hm=>h3 m (by simp[hm])⟩⟩
   ·cases p with
    | none=>rfl
    | some y=>have:=h2 y rfl x (by simp);simp;omega
   ·cases hy;exact h4.1 m hm
theorem vz {x:fq}:x.aE=true↔x.aA≠[]/\(jV x.aA/\∀m∈x.aA,1<=m/\m<=7)/\(jV x.aC/\∀m∈x.aC,1<=m/\m<=7)/\(jV x.aD/\∀m∈x.aD,1<=m/\m<=7)/\∀m∈x.aD,m∉x.aA/\m∉x.aC:=by
 constructor;·intro h;obtain⟨h0,h1,h2,h3,h4,h5,h6,h7⟩:=Q0 h;exact⟨λe=>h0 (by rw[e];rfl),⟨h1,h4⟩,⟨h2,h5⟩,⟨h3,h6⟩,h7⟩
 ·rintro⟨h0,⟨h1,h4⟩,⟨h2,h5⟩,⟨h3,h6⟩,h7⟩;have r1:kI none x.aA=true:=CF.2 ⟨h1,by simp,h4⟩;have r2:kI none x.aC=true:=CF.2 ⟨h2,by simp,h5⟩;have r3:kI none x.aD=true:=CF.2 ⟨h3,by simp,h6⟩;have r4:x.aD.any x.aJ=false:=by rw[<-Bool.not_eq_true,WH];rintro⟨n,g1,g2⟩;have:=h7 n g1;simp[fq.aJ,this.1,this.2]at g2
  have r0:x.aA.length≠0:=λe=>h0 (Uz e);simp[fq.aQ,r0,r1,r2,r3,r4]
end Glb
