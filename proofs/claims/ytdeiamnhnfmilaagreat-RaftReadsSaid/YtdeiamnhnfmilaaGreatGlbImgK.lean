/-
  A library of its own.
-/
import Derived.Test.YtdeiamnhnfmilaaGreatGlbImgA
import Derived.Test.YtdeiamnhnfmilaaGreatGlbConB
set_option linter.unusedSimpArgs false
set_option linter.unusedVariables false
set_option maxRecDepth 10000
set_option maxHeartbeats 8000000
namespace Glb
open Go
def jo.v (x:jo):List AV:=D.aC x.c
def zc (l:List gX):AV:=(lT l).av
def y_ (l:List fF):AV:=(rA l).av
def y0 (l:List fZ):AV:=(nV l).av
theorem RP (l:List gX):(zc l).aH=true:=lS _
theorem RO (l:List fF):(y_ l).aH=true:=lS _
theorem RN (l:List fZ):(y0 l).aH=true:=lS _
theorem KR (l:List gX):(zc l).aK=some [zc l]:=gC (lS _)
theorem KP (l:List fF):(y_ l).aK=some [y_ l]:=gC (lS _)
theorem KM (l:List fZ):(y0 l).aK=some [y0 l]:=gC (lS _)
attribute [go_sem] RP RO RN KR KP KM
def jo.aE (x:jo):Prop:=x.aA.length<=2^30/\x.aD.length<=2^30/\∀y∈x.aA,y.aN
def vR (P:Program)(f:FuncId):Prop:=fP P f=true/\∀(F:Nat->Prop)(h:eW)(x:fF)(a:List AV),fm F h x.c a->x.aN->fC P f [.aF a] h λr h'=>r=.aF x.v/\h'=h
theorem mQ.gb {P:Program}{f:FuncId}(hc:mQ P f .u8){F:Nat->Prop}{h:eW}{l:List Int}{a:AV}(ha:Rd F h (gj l) a)(hl:l.length<=2^40):fC P f [a] h λr h'=>r=i9 l/\h'=h:=
 (hc.2 F h l a ha hl).aC λ_ _ hk=>⟨hk.2.2,_,gY.d (eX.fz (gj l) (λ_ x=>x) _ hk.1),rfl⟩
theorem vS.g {P:Program}{f:FuncId}(hc:vS P f){F:Nat->Prop}{h:eW}{x:fu}{a:List AV}(ha:fm F h x.c a)(hl:me x.es):fC P f [.aF a] h λr h'=>r=.aF x.v/\h'=h:=
 (hc.2 F h x a ha hl).aC λ_ _ ⟨_,e,ho,hx⟩=>⟨hx,_,e▸gY.aA (fI.fz x.c (λ_ x=>x) _ ho),rfl⟩
theorem Ip {P:Program}{f g k b:FuncId}(hf:Is P f (zu g k b))(hg:vS P g)(hk:t_ P k)(hb:mQ P b .u8):vR P f:=by refine⟨hf.2,λF h x a ha hx=>jN (SW _ _) (fU hf ?_)⟩;obtain⟨e,o,n,d,s,rfl,he,ho,hn,hd,hs⟩:=m9 ha;simp only[zu,fF.aH,go_sem,he.aA,ho.aA,hn.aA,hd.aA,hs.aA];have e1:=hg.g ((u_ he).up (eV.b2 (some (.aA 10 [x.aH e o n d s] false)) (some (.aA 10 [[.aA .i64 0,.aA .i64 0,.aA .i64 0,.aA .i64 0,.aA .i64 0,.aD,.aD,.aD,.aD,.aD]] false)))) hx.1;simp only[fu.aM,fF.aH]at e1;refine gh hg.1 e1 ?_;simp only[go_sem];have e2:=λH (e:eV eY h H)=>hk.g ((s_ ho hn hd).up e) hx.2.1;simp only[fq.aK]at e2;refine gh hk.1 (e2 _ (eV.b2 _ _)) ?_;simp only[go_sem];refine gh hb.1 (hb.gb (hs.up (eV.b2 _ _)) hx.2.2) ?_;simp only[go_sem,fF.aL];exact eV.b2 _ _
theorem Fx {T:Type}(e:T->List Int)(n:Nat):∀xs:List T,(∀x∈xs,(e x).length<=n)->(xs.flatMap e).length<=xs.length*n
 | [],_=>by simp
 | x :: r,h=>by have h1:=Fx e n r (λy hy=>h y (by simp[hy]));have h2:=h x (by simp);simp only[WE,Ut,UG,V8];omega
end Glb
