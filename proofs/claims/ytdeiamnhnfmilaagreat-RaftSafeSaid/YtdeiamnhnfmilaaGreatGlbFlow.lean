/-
  How far a member is: the program's functions and the document's answer so.
-/
import Derived.Test.YtdeiamnhnfmilaaGreatGlbKitA
set_option linter.unusedSimpArgs false
set_option linter.unusedVariables false
set_option maxRecDepth 10000
set_option maxHeartbeats 4000000
namespace Glb
open Go
structure fV where
 aE:Int
 aC:Int
 aD:Int
 aH:Int
 deriving DecidableEq
def fV.c (f:fV):List D:=[.aA .i64 f.aE,.aA .i64 f.aC,.aA .i64 f.aD,.aA .i64 f.aH]
def fV.aA (f:fV):List AV:=[.aA .i64 f.aE,.aA .i64 f.aC,.aA .i64 f.aD,.aA .i64 f.aH]
def fV.aF (f:fV)(m:fJ):fV:=
 if m.aE=4/\m.aC=f.aE then
  if m.ok=true then ⟨f.aE,max f.aC (max f.aD m.aA+1),max f.aD m.aA,max f.aH m.aM⟩
  else ⟨f.aE,max (f.aD+1) (min (f.aC-1) (m.aA+1)),f.aD,f.aH⟩
 else f
def fV.aJ (f:fV):Prop:=(0<=f.aE/\0<=f.aC/\0<=f.aD)/\f.aE<=2^42/\f.aC<=2^42/\f.aD<=2^42
theorem II (n:Nat)(f:fV):(AV.aF f.aA).aJ n=true:=by simp only[fV.aA,AV.aJ,AV.aP,Bool.and_self]
def yI (P:Program)(f:FuncId):Prop:=
 fK P f=true/\∀(F:Nat->Prop)(h:eX)(w:fV)(m:fJ)(a:List AV),fu F h m.c a->w.aJ->0<=m.aA/\m.aA<=2^40->
  fC P f [.aF w.aA,.aF a] h λr h'=>r=.aF (w.aF m).aA/\h'=h
theorem MN {P:Program}{f:FuncId}(hf:Is P f zO):yI P f:=by
 refine⟨hf.2,λF h w m a hm hw hi=>jG (II _ _) (fS hf ?_)⟩;obtain⟨e,d,rfl,he,hd⟩:=HQ hm;obtain⟨⟨w1,w2,w3⟩,w5,w6,w7⟩:=hw;have e1:IntKind.i64.wrap (max w.aD m.aA+1)=max w.aD m.aA+1:=gj (by omega);have e2:IntKind.i64.wrap (w.aD+1)=w.aD+1:=gj (by omega);have e3:IntKind.i64.wrap (w.aC-1)=w.aC-1:=gj (by omega);have e4:IntKind.i64.wrap (m.aA+1)=m.aA+1:=gj (by omega);simp only[zO,fJ.aD,fV.aA,go_sem,he.aA,hd.aA];by_cases c1:m.aE=4
 ·by_cases c2:m.aC=w.aE
  ·cases c3:m.ok;·simp only[go_sem,U3 c1,U3 c2,VF,rT,vp,tL,e2,e3,e4];exact⟨by simp[fV.aF,c1,c2,c3],eW.b3 _ _ _⟩
   ·simp only[go_sem,U3 c1,U3 c2,VF,rT,vp,e1];exact⟨by simp[fV.aF,c1,c2,c3],eW.b3 _ _ _⟩
  ·simp only[go_sem,U3 c1,U2 c2,VF];exact⟨by simp[fV.aF,c1,c2],eW.b3 _ _ _⟩
 ·simp only[go_sem,U2 c1];exact⟨by simp[fV.aF,c1],eW.b3 _ _ _⟩
end Glb
