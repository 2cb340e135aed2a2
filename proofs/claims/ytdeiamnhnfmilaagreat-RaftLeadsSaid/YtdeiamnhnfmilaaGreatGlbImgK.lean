/-
  A library of its own.
-/
import Derived.Test.YtdeiamnhnfmilaaGreatGlbImgA
import Derived.Test.YtdeiamnhnfmilaaGreatGlbConB
set_option linter.unusedSimpArgs false
set_option linter.unusedVariables false
set_option maxRecDepth 10000
set_option maxHeartbeats 8000000
namespace Glb
open Go
variable {P:Program}{f:FuncId}
def jH.v (x:jH):List AV:=D.aC x.c
def AW (l:List im):AV:=(mJ l).av
def AT (l:List fP):AV:=(sZ l).av
def AS (l:List gE):AV:=(oX l).av
theorem UD (l:List im):(AW l).aH=true:=mI _
theorem UC (l:List fP):(AT l).aH=true:=mI _
theorem UB (l:List gE):(AS l).aH=true:=mI _
theorem Nr (l:List im):(AW l).aK=some [AW l]:=gV (mI _)
theorem Np (l:List fP):(AT l).aK=some [AT l]:=gV (mI _)
theorem Nl (l:List gE):(AS l).aK=some [AS l]:=gV (mI _)
attribute [go_sem] UD UC UB Nr Np Nl
def jH.aE (x:jH):Prop:=x.aA.length<=2^30/\x.aD.length<=2^30/\∀y∈x.aA,y.aN
def xB (P:Program)(f:FuncId):Prop:=fZ P f=true/\∀(F:Nat->Prop)(h:fu)(x:fP)(a:List AV),fH F h x.c a->x.aN->fO P f [.aF a] h λr h'=>r=.aF x.v/\h'=h
theorem pH.gb (hc:pH P f .u8){F:Nat->Prop}{h:fu}{l:List Int}{a:AV}(ha:Rd F h (gG l) a)(hl:l.length<=2^40):fO P f [a] h λr h'=>r=jx l/\h'=h:=
 (hc.2 F h l a ha hl).aC λ_ _ hk=>⟨hk.2.2,_,iu.d (fA.fz (gG l) (λ_ x=>x) _ hk.1),rfl⟩
theorem xC.g (hc:xC P f){F:Nat->Prop}{h:fu}{x:fG}{a:List AV}(ha:fH F h x.c a)(hl:mS x.es):fO P f [.aF a] h λr h'=>r=.aF x.v/\h'=h:=
 (hc.2 F h x a ha hl).aC λ_ _ ⟨_,e,ho,hx⟩=>⟨hx,_,e▸iu.aA (fU.fz x.c (λ_ x=>x) _ ho),rfl⟩
theorem KA {g k b:FuncId}(hf:Is P f (Bf g k b))(hg:xC P g)(hk:vI P k)(hb:pH P b .u8):xB P f:=by refine⟨hf.2,λF h x a ha hx=>kx (Vw _ _) (gy hf ?_)⟩;obtain⟨e,o,n,d,s,rfl,he,ho,hn,hd,hs⟩:=m7 ha;simp only[Bf,fP.aH,go_sem,he.aA,ho.aA,hn.aA,hd.aA,hs.aA];have e1:=hg.g ((wL he).up (fq.b2 (some (.aA 10 [x.aH e o n d s] false)) (some (.aA 10 [[ι 0,ι 0,ι 0,ι 0,ι 0,.aC,.aC,.aC,.aC,.aC]] false)))) hx.1;simp only[fG.aN,fP.aH]at e1;refine gH hg.1 e1 ?_;simp only[go_sem];have e2:=λH (e:fq fB h H)=>hk.g ((uH ho hn hd).up e) hx.2.1;simp only[fI.aN]at e2;refine gH hk.1 (e2 _ (fq.b2 _ _)) ?_;simp only[go_sem];refine gH hb.1 (hb.gb (hs.up (fq.b2 _ _)) hx.2.2) ?_;simp only[go_sem,fP.aL];exact fq.b2 _ _
variable {P:Program}{f:FuncId}
theorem HJ {T:Type}(e:T->List Int)(n:Nat):∀xs:List T,(∀x∈xs,(e x).length<=n)->(xs.flatMap e).length<=xs.length*n
 | [],_=>by simp
 | x :: r,h=>by have h1:=HJ e n r (λy hy=>h y (by simp[hy]));have h2:=h x ς;simp only[Zx,WT,Xf,Y4];omega
end Glb
