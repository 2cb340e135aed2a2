/-
  A library of its own.
-/
import Derived.Test.YtdeiamnhnfmilaaGreatGlbTurA
set_option linter.unusedSimpArgs false
set_option linter.unusedVariables false
set_option maxRecDepth 10000
set_option maxHeartbeats 16000000
namespace Glb
open Go
variable {P:Program}{f:FuncId}
def k_ (d:Int):Int:=10+d % 10
theorem Vl (d:Int):(0<=d/\d.tmod 10=d % 10)\/(d<0/\(d.tmod 10=d % 10-10\/d.tmod 10=0/\d % 10=0)):=by
 by_cases h:0<=d
 ·exact .inl ⟨h,Int.tmod_eq_emod_of_nonneg h⟩
 ·have e:d.tmod 10=-((-d) % 10):=by rw[<-Int.tmod_eq_emod_of_nonneg (show 0<=-d by omega),Int.neg_tmod];omega
  refine .inr ⟨ω,?_⟩;rw[e];omega
def x9 (P:Program)(f:FuncId):Prop:=fZ P f=true/\∀(h:fu)(d:Int),fO P f [.aD .i64 d] h λr h'=>r=.aD .i64 (k_ d)/\h'=h
theorem Wm (hf:Is P f Dm):x9 P f:=by
 refine⟨hf.2,λh d=>gy hf ?_⟩;have z:¬(10:Int)=0:=by decide
 simp only[Dm,go_sem,Ju,WY z];have t:=Vl d;by_cases c:d.tmod 10<0
 ·have e1:IntKind.i64.wrap (d.tmod 10+10)=d % 10:=by rw[gF ω];omega
  have e2:IntKind.i64.wrap (10+d % 10)=k_ d:=by rw[gF ω];rfl
  simp only[go_sem,WZ c,e1,e2]
 ·have e1:d.tmod 10=d % 10:=ω;have e2:IntKind.i64.wrap (10+d % 10)=k_ d:=by rw[gF ω];rfl
  have c':¬d % 10<0:=ω;simp only[go_sem,WV c',e1,e2]
def ku (term voted:Int)(l:fG)(m:fF):Bool:=decide (m.aC=1) && (decide (m.aD=term) && ((decide (voted=0) || decide (voted=m.aE)) && l.aM m.aA m.aH))
def Ao (P:Program)(f:FuncId):Prop:=fZ P f=true/\∀(F F':Nat->Prop)(h:fu)(term voted:Int)(l:fG)(m:fF)(a b:List AV),fH F h l.c a->fH F' h m.c b->kh l->
 fO P f [.aD .i64 term,.aD .i64 voted,.aF a,.aF b] h λr h'=>r=.aE (ku term voted l m)/\h'=h
theorem qK {m:fF}{F:Nat->Prop}{h:fu}{a:List AV}(hh:fH F h m.c a):∃e d,a=m.aF e d/\Rd F h (gZ m.es) e/\Rd F h (gG m.aG) d:=by simp only[fF.c,fH,Rd]at hh;obtain⟨_,_,rfl,rfl,_,_,rfl,rfl,_,_,rfl,rfl,_,_,rfl,rfl,_,_,rfl,rfl,_,_,rfl,rfl,_,_,rfl,rfl,_,_,rfl,rfl,_,_,rfl,rfl,_,_,rfl,rfl,_,_,rfl,rfl,_,_,rfl,rfl,_,_,rfl,rfl,_,_,rfl,rfl,_,_,rfl,rfl,e,_,rfl,he,d,_,rfl,hd,rfl⟩:=hh;exact⟨e,d,rfl,he,hd⟩
theorem Jo {l:fG}{F:Nat->Prop}{h:fu}{a:List AV}(hh:fH F h l.c a):∃d,a=[ι l.aA,ι l.aD,d]/\Rd F h (gZ l.es) d:=by simp only[fG.c,fH,Rd]at hh;obtain⟨_,_,rfl,rfl,_,_,rfl,rfl,d,_,rfl,hd,rfl⟩:=hh;exact⟨d,rfl,hd⟩
theorem Wl {g:FuncId}(hf : Is P f (Dl g)) (hg : Av P g) : Ao P f := by
 refine ⟨hf.2, λF F' h term voted l m a b ha hb ok => kx (tO _ _) (gy hf ?_)⟩;have u := ha;obtain ⟨d, rfl, hd⟩ := Jo ha;obtain ⟨e, s, rfl, he, hs⟩ := qK hb;simp only [Dl, go_sem, fF.aF, hd.aA, he.aA, hs.aA];repeat' (first
  | refine vB (λ_ => ?_) (λ_ => ?_)
  | refine Kg (λ_ => ?_) (λ_ => ?_)
  | (refine fK ⟨hg.1, hg.2 F _ l _ _ _ (u.up ((fq.b1 _).tr (fq.b1 _))) ok⟩ ?_; rintro _ _ ⟨rfl, rfl⟩)
  | simp only [go_sem, *])
 all_goals refine ⟨?_, (fq.b1 _).tr (fq.b1 _)⟩
 all_goals simp_all [ku]
variable {P:Program}{f:FuncId}
def uJ (l:List fF):D:=.sl 17 (l.map fF.c)
def uz (id group term index last n:Int):fF:=⟨1,id,n,group,term,index,last,0,0,0,0,0,0,0,false,[],[]⟩
def jY (id group term:Int)(l:fG)(c:fI):List fF:=(c.aI.filter λn=>decide (n≠id)).map (uz id group term l.aC l.aL)
def pY (m:fF):List AV:=m.aF .aC .aC
theorem LZ {id group term:Int}{l:fG}{c:fI}:∀m∈jY id group term l c,m.es=[]/\m.aG=[]:=by intro m hm;simp only[jY,XO]at hm;obtain⟨n,-,rfl⟩:=hm;exact⟨rfl,rfl⟩
theorem Gt (id group term:Int)(l:fG)(c:fI):(jY id group term l c).length<=c.aI.length:=by simp only[jY,Xd];exact YN _ _
def z8 (P:Program)(f:FuncId):Prop:=fZ P f=true/\∀(F F':Nat->Prop)(h:fu)(id group term:Int)(l:fG)(c:fI)(a b:List AV),fH F h l.c a->fH F' h c.c b->kh l->c.aH (2^30)->
 fO P f [.aD .i64 id,.aD .i64 group,.aD .i64 term,.aF a,.aF b] h λr h'=>lK h.length h' 17 r ((jY id group term l c).map pY)/\fq fB h h'
theorem Wj {g v:FuncId}(hf:Is P f (Dk g v))(hg:mR P g)(hv:pJ P v fI.aI):z8 P f:=by
 refine⟨hf.2,λF F' h id group term l c a b ha hb ok few=>gy hf ?_⟩;have ha0:=ha;have hb0:=hb;obtain⟨d,rfl,hd⟩:=Jo ha;obtain⟨o,n,e,rfl,ho,hn,he⟩:=pA hb;simp only[Dk,go_sem,hd.aA,ho.aA,hn.aA,he.aA];have X0:=fq.b2 (h:=h) (some (.aA 3 [[ι l.aA,ι l.aD,d]] false)) (some (.aA 3 [[o,n,e]] false));have B1:=jy h (some (.aA 3 [[ι l.aA,ι l.aD,d]] false)) (some (.aA 3 [[o,n,e]] false));refine gH hg.1 (hg.2 F _ l _ (ha0.up X0) ok) ?_;simp only[go_sem];have hb1:=hb0.up X0;have lH:(h++[some (fC.aA 3 [[ι l.aA,ι l.aD,d]] false)]++[some (fC.aA 3 [[o,n,e]] false)]).length=h.length+2:=by simp
 generalize h++[some (fC.aA 3 [[ι l.aA,ι l.aD,d]] false)]++[some (fC.aA 3 [[o,n,e]] false)]=H at *;refine fK ⟨hv.1,hv.2 F' H c _ hb1 ⟨by have:=few.1;omega,by have:=few.2.1;omega,by have:=few.2.2;omega⟩⟩ ?_;rintro w h1 ⟨ow,x1⟩;have ow:=fA.lt _ _ ow;have vl:c.aI.length<=2^31:=by have u:=zO (c.aA++c.aC);simp only[WT]at u;have:=few.1;have:=few.2.1;simp only[fI.aI];omega
 have lw:iJ w=some (ι c.aI.length):=(fA.rd _ (F':=λ_=>True) (λ_ _=>Xb) _ ow).aF;have l1:=x1.1;have X1:=X0.aD x1 (F'':=fB) (λ_ _ x=>x) (λ_ _ x=>x);simp only[go_sem,lw];obtain⟨R,hR⟩:∃R:Int->List AV,R=λn=>pY (uz id group term l.aC l.aL n):=⟨_,rfl⟩;obtain⟨Q,hQ⟩:∃Q:Int->Bool,Q=λn=>decide (n≠id):=⟨_,rfl⟩;have eA:(jY id group term l c).map pY=(c.aI.filter Q).map R:=by rw[hR,hQ];simp[jY]
 rw[eA];generalize c.aI=vs at *;obtain⟨I,hI⟩:∃I:Nat->gx->fu->Prop,∀m L h',I m L h'↔∃(i:Nat)(o:AV),lk 0 L=ι id/\lk 1 L=ι group/\lk 2 L=ι term/\lk 11 L=ι l.aC/\lk 12 L=ι l.aL/\lk 13 L=o/\lk 22 L=w/\lk 23 L=ι vs.length/\lk 24 L=ι i /\
   lK h1.length h' 17 o (((vs.take i).filter Q).map R)/\fq fB h1 h'/\i<=vs.length/\m=vs.length-i:=⟨_,λ_ _ _=>YD⟩
 refine iP I vs.length ((hI _ _ _).2 ⟨0,.aC,by simp[fE,iw],by simp[fE,iw],by simp[fE,iw],by simp[fE],by simp[fE],by simp[fE],by simp[fE],by simp[fE],by simp[fE],.inl ⟨rfl,ς⟩,fq.aC _ _,ω,ω⟩) ?_;intro m L h2 hh;obtain⟨i,o,k0,k1,k2,k11,k12,k13,k22,k23,k24,oo,X2,hi,rfl⟩:=(hI _ _ _).1 hh;simp only[Hn,go_sem,k23,k24];refine iQ (λci=>?_) (λci=>?_)
 ·simp at ci;obtain⟨p,hp,hv'⟩:=(fA.rd _ (F':=λ_=>True) (λ_ _=>Xb) _ (fA.aC _ (λ_ x=>x) (λm hm y hy=>by rw[X2.2 m hm.2 (by simp[fB])];exact hy) _ ow)).aG (i:=i) ci;have ew:IntKind.i64.wrap (↑i+1)=(i:Int)+1:=gF ω;have tk:vs.take (i+1)=vs.take i++[vs[i]]:=XE ci;simp only[go_sem,k0,k22,k24,hp,hv'];by_cases c0:vs[i]=id
  ·have q:Q vs[i]=false:=by rw[hQ];simp[c0]
   simp only[go_sem,WZ c0,ew,k24];exact⟨_,ω,(hI _ _ _).2 ⟨i+1,o,by simp[fE,k0],by simp[fE,k1],by simp[fE,k2],by simp[fE,k11],by simp[fE,k12],by simp[fE,k13],by simp[fE,k22],by simp[fE,k23],by simp[fE],by rw[tk,List.filter_append];simpa [q] using oo,X2,ci,rfl⟩⟩
  ·have q:Q vs[i]=true:=by rw[hQ];simp[c0]
   have ll:=YN Q (vs.take i);have lt:=Zz i vs;obtain⟨o2,h3,s1,s2,s3⟩:=F8 (bytes:=168) (h:=h2++[some (.aA 17 [R vs[i]] false)]) (ys:=[R vs[i]]) oo (fq.b1 _) X2.1 (by simp;omega);rw[<-iR (mH h2 17 [R vs[i]] false (some 1) (len:=1) rfl)]at s1;have eR:R vs[i]=[ι 1,ι id,ι vs[i],ι group,ι term,ι l.aC,ι l.aL,ι 0,ι 0,ι 0,ι 0,ι 0,ι 0,ι 0,.aE false,.aC,.aC]:=by rw[hR];rfl
   rw[eR]at s1;simp only[go_sem,WV c0,k0,k1,k2,k11,k12,k13,k24,s1,ew];exact⟨_,ω,(hI _ _ _).2 ⟨i+1,o2,by simp[fE,k0],by simp[fE,k1],by simp[fE,k2],by simp[fE,k11],by simp[fE,k12],by simp[fE],by simp[fE,k22],by simp[fE,k23],by simp[fE],by rw[tk,List.filter_append,XU];simpa [q] using s2,(X2.tr (fq.b1 _)).aJ s3 (λm hm hm'=>ω),ci,rfl⟩⟩
 ·simp at ci;obtain rfl:i=vs.length:=ω;rw[XF]at oo;simp only[go_sem,k13];exact⟨lK.lo oo ω,X1.tr X2⟩
end Glb
