/-
  How far a member is: the program's functions and the document's answer so.
-/
import Derived.Test.YtdeiamnhnfmilaaGreatGlbKitA
set_option linter.unusedSimpArgs false
set_option linter.unusedVariables false
set_option maxRecDepth 10000
set_option maxHeartbeats 4000000
namespace Glb
open Go
structure fS where
 aA:Int
 aD:Int
 aC:Int
 aI:Int
 deriving DecidableEq
def fS.c (f:fS):List D:=[.aA .i64 f.aA,.aA .i64 f.aD,.aA .i64 f.aC,.aA .i64 f.aI]
def fS.aF (f:fS):List AV:=[.aD .i64 f.aA,.aD .i64 f.aD,.aD .i64 f.aC,.aD .i64 f.aI]
def fS.aE (f:fS)(m:fF):fS:=
 if m.aC=4/\m.aE=f.aA then
  if m.ok=true then ⟨f.aA,max f.aD (max f.aC m.aA+1),max f.aC m.aA,max f.aI m.aM⟩
  else ⟨f.aA,max (f.aC+1) (min (f.aD-1) (m.aA+1)),f.aC,f.aI⟩
 else f
def fS.aJ (f:fS):Prop:=(0<=f.aA/\0<=f.aD/\0<=f.aC)/\f.aA<=2^42/\f.aD<=2^42/\f.aC<=2^42
theorem J8 (n:Nat)(f:fS):(AV.aF f.aF).aJ n=true:=by simp only[fS.aF,AV.aJ,AV.aP,ZJ]
def Ap (P:Program)(f:FuncId):Prop:=
 fZ P f=true/\∀(F:Nat->Prop)(h:fu)(w:fS)(m:fF)(a:List AV),fH F h m.c a->w.aJ->0<=m.aA/\m.aA<=2^40->
  fO P f [.aF w.aF,.aF a] h λr h'=>r=.aF (w.aE m).aF/\h'=h
theorem OB {P:Program}{f:FuncId}(hf:Is P f A_):Ap P f:=by
 refine⟨hf.2,λF h w m a hm hw hi=>kx (J8 _ _) (gy hf ?_)⟩;obtain⟨e,d,rfl,he,hd⟩:=Jp hm;obtain⟨⟨w1,w2,w3⟩,w5,w6,w7⟩:=hw;have e1:IntKind.i64.wrap (max w.aC m.aA+1)=max w.aC m.aA+1:=gF ω;have e2:IntKind.i64.wrap (w.aC+1)=w.aC+1:=gF ω;have e3:IntKind.i64.wrap (w.aD-1)=w.aD-1:=gF ω;have e4:IntKind.i64.wrap (m.aA+1)=m.aA+1:=gF ω;simp only[A_,fF.aF,fS.aF,go_sem,he.aA,hd.aA];by_cases c1:m.aC=4
 ·by_cases c2:m.aE=w.aA
  ·cases c3:m.ok;·simp only[go_sem,WZ c1,WZ c2,XL,tL,wP,uZ,e2,e3,e4];exact⟨by simp[fS.aE,c1,c2,c3],fq.b3 _ _ _⟩
   ·simp only[go_sem,WZ c1,WZ c2,XL,tL,wP,e1];exact⟨by simp[fS.aE,c1,c2,c3],fq.b3 _ _ _⟩
  ·simp only[go_sem,WZ c1,WV c2,XL];exact⟨by simp[fS.aE,c1,c2],fq.b3 _ _ _⟩
 ·simp only[go_sem,WV c1];exact⟨by simp[fS.aE,c1],fq.b3 _ _ _⟩
end Glb
