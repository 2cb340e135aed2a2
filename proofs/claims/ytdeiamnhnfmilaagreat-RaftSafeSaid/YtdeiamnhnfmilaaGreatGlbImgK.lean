/-
  A library of its own.
-/
import Derived.Test.YtdeiamnhnfmilaaGreatGlbImgA
import Derived.Test.YtdeiamnhnfmilaaGreatGlbConB
set_option linter.unusedSimpArgs false
set_option linter.unusedVariables false
set_option maxRecDepth 10000
set_option maxHeartbeats 8000000
namespace Glb
open Go
def jf.v (x:jf):List AV:=D.aC x.c
def zx (l:List hP):AV:=(lJ l).av
def zt (l:List fF):AV:=(rv l).av
def zq (l:List gi):AV:=(nS l).av
theorem Sx (l:List hP):(zx l).aH=true:=lI _
theorem Sw (l:List fF):(zt l).aH=true:=lI _
theorem Sv (l:List gi):(zq l).aH=true:=lI _
theorem Lu (l:List hP):(zx l).aL=some [zx l]:=gz (lI _)
theorem Ls (l:List fF):(zt l).aL=some [zt l]:=gz (lI _)
theorem Lp (l:List gi):(zq l).aL=some [zq l]:=gz (lI _)
attribute [go_sem] Sx Sw Sv Lu Ls Lp
def jf.aE (x:jf):Prop:=x.aA.length<=2^30/\x.aD.length<=2^30/\∀y∈x.aA,y.aP
def vW (P:Program)(f:FuncId):Prop:=fK P f=true/\∀(F:Nat->Prop)(h:eX)(x:fF)(a:List AV),fu F h x.c a->x.aP->fC P f [.aF a] h λr h'=>r=.aF x.v/\h'=h
theorem ot.gb {P:Program}{f:FuncId}(hc:ot P f .u8){F:Nat->Prop}{h:eX}{l:List Int}{a:AV}(ha:Rd F h (gq l) a)(hl:l.length<=2^40):fC P f [a] h λr h'=>r=iS l/\h'=h:=
 (hc.2 F h l a ha hl).aC λ_ _ hk=>⟨hk.2.2,_,gU.d (eY.fz (gq l) (λ_ x=>x) _ hk.1),rfl⟩
theorem vX.g {P:Program}{f:FuncId}(hc:vX P f){F:Nat->Prop}{h:eX}{x:fA}{a:List AV}(ha:fu F h x.c a)(hl:lU x.es):fC P f [.aF a] h λr h'=>r=.aF x.v/\h'=h:=
 (hc.2 F h x a ha hl).aC λ_ _ ⟨_,e,ho,hx⟩=>⟨hx,_,e▸gU.aA (fI.fz x.c (λ_ x=>x) _ ho),rfl⟩
theorem Jd {P:Program}{f g k b:FuncId}(hf:Is P f (zU g k b))(hg:vX P g)(hk:uj P k)(hb:ot P b .u8):vW P f:=by refine⟨hf.2,λF h x a ha hx=>jG (Tz _ _) (fS hf ?_)⟩;obtain⟨e,o,n,d,s,rfl,he,ho,hn,hd,hs⟩:=lO ha;simp only[zU,fF.aH,go_sem,he.aA,ho.aA,hn.aA,hd.aA,hs.aA];have e1:=hg.g ((vk he).up (eW.b2 (some (.aA 10 [x.aH e o n d s] false)) (some (.aA 10 [[.aA .i64 0,.aA .i64 0,.aA .i64 0,.aA .i64 0,.aA .i64 0,.aD,.aD,.aD,.aD,.aD]] false)))) hx.1;simp only[fA.aM,fF.aH]at e1;refine fZ hg.1 e1 ?_;simp only[go_sem];have e2:=λH (e:eW eZ h H)=>hk.g ((s_ ho hn hd).up e) hx.2.1;simp only[fq.aP]at e2;refine fZ hk.1 (e2 _ (eW.b2 _ _)) ?_;simp only[go_sem];refine fZ hb.1 (hb.gb (hs.up (eW.b2 _ _)) hx.2.2) ?_;simp only[go_sem,fF.aM];exact eW.b2 _ _
theorem Gj {T:Type}(e:T->List Int)(n:Nat):∀xs:List T,(∀x∈xs,(e x).length<=n)->(xs.flatMap e).length<=xs.length*n
 | [],_=>by simp
 | x :: r,h=>by have h1:=Gj e n r (λy hy=>h y (by simp[hy]));have h2:=h x (by simp);simp only[Xj,U1,Vf,WI];omega
end Glb
