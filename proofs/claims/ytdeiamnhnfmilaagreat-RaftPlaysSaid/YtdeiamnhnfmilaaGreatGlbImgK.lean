/-
  A library of its own.
-/
import Derived.Test.YtdeiamnhnfmilaaGreatGlbImgA
import Derived.Test.YtdeiamnhnfmilaaGreatGlbConB
set_option linter.unusedSimpArgs false
set_option linter.unusedVariables false
set_option maxRecDepth 10000
set_option maxHeartbeats 8000000
namespace Glb
open Go
def fU.v (x:fU):List AV:=D.aB x.c
def y3 (l:List na):AV:=(L9 l).av
def yV (l:List fV):AV:=(L7 l).av
def yT (l:List fU):AV:=(jQ l).av
theorem Ta (l:List na):(y3 l).aG=true:=jX _
theorem S_ (l:List fV):(yV l).aG=true:=jX _
theorem S9 (l:List fU):(yT l).aG=true:=jX _
theorem LA (l:List na):(y3 l).aK=some [y3 l]:=gH (jX _)
theorem Lz (l:List fV):(yV l).aK=some [yV l]:=gH (jX _)
theorem Lw (l:List fU):(yT l).aK=some [yT l]:=gH (jX _)
attribute [go_sem] Ta S_ S9 LA Lz Lw
def yc (P:Program)(f:FuncId):Prop:=fI P f=true/\∀(F:Nat->Prop)(h:eZ)(x:fV)(a:List AV),fu F h x.c a->x.aK->fy P f [.aE a] h λr h'=>r=.aE x.v/\h'=h
theorem lj.gb {P:Program}{f:FuncId}(hc:lj P f .u8){F:Nat->Prop}{h:eZ}{l:List Int}{a:AV}(ha:Rd F h (fT l) a)(hl:l.length<=2^40):fy P f [a] h λr h'=>r=gV l/\h'=h:=
 (hc.2 F h l a ha hl).aB λ_ _ hk=>⟨hk.2.2,_,gM.d (e_.fz (fT l) (λ_ x=>x) _ hk.1),rfl⟩
theorem qb.g {P:Program}{f:FuncId}(hc:qb P f){F:Nat->Prop}{h:eZ}{x:fE}{a:List AV}(ha:fu F h x.c a)(hl:iK x.es):fy P f [.aE a] h λr h'=>r=.aE x.v/\h'=h:=
 (hc.2 F h x a ha hl).aB λ_ _ ⟨_,e,ho,hx⟩=>⟨hx,_,e▸gM.aA (fW.fz x.c (λ_ x=>x) _ ho),rfl⟩
theorem Jk {P:Program}{f g k b:FuncId}(hf:Is P f (qD g k b))(hg:qb P g)(hk:ot P k)(hb:lj P b .u8):yc P f:=by refine⟨hf.2,λF h x a ha hx=>iF (Dv _ _) (fN hf ?_)⟩;obtain⟨e,o,n,d,s,rfl,he,ho,hn,hd,hs⟩:=kW ha;simp only[qD,fV.aG,go_sem,he.aA,ho.aA,hn.aA,hd.aA,hs.aA];have e1:=hg.g ((pS he).up (eY.b2 (some (.aA 10 [x.aG e o n d s] false)) (some (.aA 10 [[.aA .i64 0,.aA .i64 0,.aA .i64 0,.aA .i64 0,.aA .i64 0,.aB,.aB,.aB,.aB,.aB]] false)))) hx.1;simp only[fE.aM,fV.aG]at e1;refine fR hg.1 e1 ?_;simp only[go_sem];have e2:=λH (e:eY fj h H)=>hk.g ((nd ho hn hd).up e) hx.2.1;simp only[fG.aD]at e2;refine fR hk.1 (e2 _ (eY.b2 _ _)) ?_;simp only[go_sem];refine fR hb.1 (hb.gb (hs.up (eY.b2 _ _)) hx.2.2) ?_;simp only[go_sem,fV.aM];exact eY.b2 _ _
theorem Ct {α:Type}{x y:List α}(hl:x.length=y.length) (hj:∀j:Nat,j<x.length->x[j]?=y[j]?):x=y:=by
 apply VT;intro j;rcases Wc j x.length with hlt | b;·exact hj j hlt
 ·rw[VJ b,VJ (by omega)]
theorem IU (x y:na):mE [(0,true),(1,true),(2,true),(3,true),(4,true)] [.aA .i64 x.aD,.aA .i64 x.aB,.aA .i64 x.aC,.aA .i64 x.aA,.aA .i64 x.aE] [.aA .i64 y.aD,.aA .i64 y.aB,.aA .i64 y.aC,.aA .i64 y.aA,.aA .i64 y.aE]=some (decide (x=y)):=by cases x;cases y;simp only[mE,VB,VZ,V3,na.mk.injEq];repeat' split;all_goals simp_all
end Glb
