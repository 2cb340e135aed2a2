/-
  How far a member is: the program's functions and the document's answer so.
-/
import Derived.Test.YtdeiamnhnfmilaaGreatGlbKitA
set_option linter.unusedSimpArgs false
set_option linter.unusedVariables false
set_option maxRecDepth 10000
set_option maxHeartbeats 4000000
namespace Glb
open Go
structure fO where
 aB:Int
 aD:Int
 aC:Int
 aF:Int
 deriving DecidableEq
def fO.c (f:fO):List D:=[.aA .i64 f.aB,.aA .i64 f.aD,.aA .i64 f.aC,.aA .i64 f.aF]
def fO.aA (f:fO):List AV:=[.aA .i64 f.aB,.aA .i64 f.aD,.aA .i64 f.aC,.aA .i64 f.aF]
def fO.aE (f:fO)(m:fB):fO:=
 if m.aD=4/\m.aC=f.aB then
  if m.ok=true then ⟨f.aB,max f.aD (max f.aC m.aA+1),max f.aC m.aA,max f.aF m.aM⟩
  else ⟨f.aB,max (f.aC+1) (min (f.aD-1) (m.aA+1)),f.aC,f.aF⟩
 else f
def fO.aJ (f:fO):Prop:=(0<=f.aB/\0<=f.aD/\0<=f.aC)/\f.aB<=2^42/\f.aD<=2^42/\f.aC<=2^42
theorem ti (n:Nat)(f:fO):(AV.aE f.aA).aJ n=true:=by simp only[fO.aA,AV.aJ,AV.aQ,Bool.and_self]
def tH (P:Program)(f:FuncId):Prop:=
 fI P f=true/\∀(F:Nat->Prop)(h:eZ)(w:fO)(m:fB)(a:List AV),fu F h m.c a->w.aJ->0<=m.aA/\m.aA<=2^40->
  fy P f [.aE w.aA,.aE a] h λr h'=>r=.aE (w.aE m).aA/\h'=h
theorem NA {P:Program}{f:FuncId}(hf:Is P f y6):tH P f:=by
 refine⟨hf.2,λF h w m a hm hw hi=>iF (ti _ _) (fN hf ?_)⟩;obtain⟨e,d,rfl,he,hd⟩:=sU hm;obtain⟨⟨w1,w2,w3⟩,w5,w6,w7⟩:=hw;have e1:IntKind.i64.wrap (max w.aC m.aA+1)=max w.aC m.aA+1:=fQ (by omega);have e2:IntKind.i64.wrap (w.aC+1)=w.aC+1:=fQ (by omega);have e3:IntKind.i64.wrap (w.aD-1)=w.aD-1:=fQ (by omega);have e4:IntKind.i64.wrap (m.aA+1)=m.aA+1:=fQ (by omega);simp only[y6,fB.aB,fO.aA,go_sem,he.aA,hd.aA];by_cases c1:m.aD=4
 ·by_cases c2:m.aC=w.aB
  ·cases c3:m.ok;·simp only[go_sem,Vc c1,Vc c2,Vq,lZ,nu,nw,e2,e3,e4];exact⟨by simp[fO.aE,c1,c2,c3],eY.b3 _ _ _⟩
   ·simp only[go_sem,Vc c1,Vc c2,Vq,lZ,nu,e1];exact⟨by simp[fO.aE,c1,c2,c3],eY.b3 _ _ _⟩
  ·simp only[go_sem,Vc c1,Va c2,Vq];exact⟨by simp[fO.aE,c1,c2],eY.b3 _ _ _⟩
 ·simp only[go_sem,Va c1];exact⟨by simp[fO.aE,c1],eY.b3 _ _ _⟩
theorem Ou {P:Program}{f:FuncId}(hf:Is P f Ay):tH P f:=by
 refine⟨hf.2,λF h w m a hm hw hi=>iF (ti _ _) (fN hf ?_)⟩;obtain⟨e,d,rfl,he,hd⟩:=sU hm;obtain⟨⟨w1,w2,w3⟩,w5,w6,w7⟩:=hw;have e1:IntKind.i64.wrap (max w.aC m.aA+1)=max w.aC m.aA+1:=fQ (by omega);have e2:IntKind.i64.wrap (w.aC+1)=w.aC+1:=fQ (by omega);have e3:IntKind.i64.wrap (w.aD-1)=w.aD-1:=fQ (by omega);have e4:IntKind.i64.wrap (m.aA+1)=m.aA+1:=fQ (by omega);simp only[Ay,fB.aB,fO.aA,go_sem,he.aA,hd.aA];by_cases c1:m.aD=4
 ·by_cases c2:m.aC=w.aB
  ·cases c3:m.ok;·simp only[go_sem,Vc c1,Vc c2,Vq,lZ,nu,nw,e2,e3,e4];exact⟨by simp[fO.aE,c1,c2,c3],eY.b3 _ _ _⟩
   ·simp only[go_sem,Vc c1,Vc c2,Vq,lZ,nu,e1];exact⟨by simp[fO.aE,c1,c2,c3],eY.b3 _ _ _⟩
  ·simp only[go_sem,Vc c1,Va c2,Vq];exact⟨by simp[fO.aE,c1,c2],eY.b3 _ _ _⟩
 ·simp only[go_sem,Va c1];exact⟨by simp[fO.aE,c1],eY.b3 _ _ _⟩
end Glb
