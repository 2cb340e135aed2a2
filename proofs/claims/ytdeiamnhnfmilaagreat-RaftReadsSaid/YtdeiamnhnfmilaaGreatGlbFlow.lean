/-
  How far a member is: the program's functions and the document's answer so.
-/
import Derived.Test.YtdeiamnhnfmilaaGreatGlbKitA
set_option linter.unusedSimpArgs false
set_option linter.unusedVariables false
set_option maxRecDepth 10000
set_option maxHeartbeats 4000000
namespace Glb
open Go
structure fR where
 aD:Int
 aC:Int
 aE:Int
 aG:Int
 deriving DecidableEq
def fR.c (f:fR):List D:=[.aA .i64 f.aD,.aA .i64 f.aC,.aA .i64 f.aE,.aA .i64 f.aG]
def fR.aA (f:fR):List AV:=[.aA .i64 f.aD,.aA .i64 f.aC,.aA .i64 f.aE,.aA .i64 f.aG]
def fR.aF (f:fR)(m:fE):fR:=
 if m.aD=4/\m.aC=f.aD then
  if m.ok=true then ⟨f.aD,max f.aC (max f.aE m.aA+1),max f.aE m.aA,max f.aG m.aK⟩
  else ⟨f.aD,max (f.aE+1) (min (f.aC-1) (m.aA+1)),f.aE,f.aG⟩
 else f
def fR.aJ (f:fR):Prop:=(0<=f.aD/\0<=f.aC/\0<=f.aE)/\f.aD<=2^42/\f.aC<=2^42/\f.aE<=2^42
theorem HN (n:Nat)(f:fR):(AV.aF f.aA).aJ n=true:=by simp only[fR.aA,AV.aJ,AV.aP,Bool.and_self]
def yz (P:Program)(f:FuncId):Prop:=
 fP P f=true/\∀(F:Nat->Prop)(h:eW)(w:fR)(m:fE)(a:List AV),fm F h m.c a->w.aJ->0<=m.aA/\m.aA<=2^40->
  fC P f [.aF w.aA,.aF a] h λr h'=>r=.aF (w.aF m).aA/\h'=h
theorem L7 {P:Program}{f:FuncId}(hf:Is P f zk):yz P f:=by
 refine⟨hf.2,λF h w m a hm hw hi=>jN (HN _ _) (fU hf ?_)⟩;obtain⟨e,d,rfl,he,hd⟩:=G_ hm;obtain⟨⟨w1,w2,w3⟩,w5,w6,w7⟩:=hw;have e1:IntKind.i64.wrap (max w.aE m.aA+1)=max w.aE m.aA+1:=gi (by omega);have e2:IntKind.i64.wrap (w.aE+1)=w.aE+1:=gi (by omega);have e3:IntKind.i64.wrap (w.aC-1)=w.aC-1:=gi (by omega);have e4:IntKind.i64.wrap (m.aA+1)=m.aA+1:=gi (by omega);simp only[zk,fE.aE,fR.aA,go_sem,he.aA,hd.aA];by_cases c1:m.aD=4
 ·by_cases c2:m.aC=w.aD
  ·cases c3:m.ok;·simp only[go_sem,Uu c1,Uu c2,U2,rU,vf,tK,e2,e3,e4];exact⟨by simp[fR.aF,c1,c2,c3],eV.b3 _ _ _⟩
   ·simp only[go_sem,Uu c1,Uu c2,U2,rU,vf,e1];exact⟨by simp[fR.aF,c1,c2,c3],eV.b3 _ _ _⟩
  ·simp only[go_sem,Uu c1,Us c2,U2];exact⟨by simp[fR.aF,c1,c2],eV.b3 _ _ _⟩
 ·simp only[go_sem,Us c1];exact⟨by simp[fR.aF,c1],eV.b3 _ _ _⟩
end Glb
