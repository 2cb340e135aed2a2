/-
  A library of its own.
-/
import Derived.Test.YtdeiamnhnfmilaaGreatGlbTurA
set_option linter.unusedSimpArgs false
set_option linter.unusedVariables false
set_option maxRecDepth 10000
set_option maxHeartbeats 16000000
namespace Glb
open Go
def lZ (d:Int):Int:=10+d % 10
theorem SK (d:Int):(0<=d/\d.tmod 10=d % 10)\/(d<0/\(d.tmod 10=d % 10-10\/d.tmod 10=0/\d % 10=0)):=by
 by_cases h:0<=d
 ·exact .inl ⟨h,Int.tmod_eq_emod_of_nonneg h⟩
 ·have e:d.tmod 10=-((-d) % 10):=by rw[<-Int.tmod_eq_emod_of_nonneg (show 0<=-d by omega),Int.neg_tmod];omega
  refine .inr ⟨by omega,?_⟩;rw[e];omega
def wu (P:Program)(f:FuncId):Prop:=fP P f=true/\∀(h:eW)(d:Int),fC P f [.aA .i64 d] h λr h'=>r=.aA .i64 (lZ d)/\h'=h
theorem TO {P:Program}{f:FuncId}(hf:Is P f BC):wu P f:=by
 refine⟨hf.2,λh d=>fU hf ?_⟩;have z:¬(10:Int)=0:=by decide
 simp only[BC,go_sem,Hg,Uw z];have t:=SK d;by_cases c:d.tmod 10<0
 ·have e1:IntKind.i64.wrap (d.tmod 10+10)=d % 10:=by rw[gi (by omega)];omega
  have e2:IntKind.i64.wrap (10+d % 10)=lZ d:=by rw[gi (by omega)];rfl
  simp only[go_sem,Uu c,e1,e2]
 ·have e1:d.tmod 10=d % 10:=by omega
  have e2:IntKind.i64.wrap (10+d % 10)=lZ d:=by rw[gi (by omega)];rfl
  have c':¬d % 10<0:=by omega
  simp only[go_sem,Us c',e1,e2]
def mo (term voted:Int)(l:fu)(m:fE):Bool:=decide (m.aD=1) && (decide (m.aF=term) && ((decide (voted=0) || decide (voted=m.aC)) && l.aN m.aA m.aH))
def yy (P:Program)(f:FuncId):Prop:=fP P f=true/\∀(F F':Nat->Prop)(h:eW)(term voted:Int)(l:fu)(m:fE)(a b:List AV),fm F h l.c a->fm F' h m.c b->jH l->
 fC P f [.aA .i64 term,.aA .i64 voted,.aF a,.aF b] h λr h'=>r=.aE (mo term voted l m)/\h'=h
theorem pP {m:fE}{F:Nat->Prop}{h:eW}{a:List AV}(hh:fm F h m.c a):∃e d,a=m.aE e d/\Rd F h (gN m.es) e/\Rd F h (gj m.aG) d:=by simp only[fE.c,fm,Rd]at hh;obtain⟨_,_,rfl,rfl,_,_,rfl,rfl,_,_,rfl,rfl,_,_,rfl,rfl,_,_,rfl,rfl,_,_,rfl,rfl,_,_,rfl,rfl,_,_,rfl,rfl,_,_,rfl,rfl,_,_,rfl,rfl,_,_,rfl,rfl,_,_,rfl,rfl,_,_,rfl,rfl,_,_,rfl,rfl,_,_,rfl,rfl,e,_,rfl,he,d,_,rfl,hd,rfl⟩:=hh;exact⟨e,d,rfl,he,hd⟩
theorem G9 {l:fu}{F:Nat->Prop}{h:eW}{a:List AV}(hh:fm F h l.c a):∃d,a=[.aA .i64 l.aA,.aA .i64 l.aD,d]/\Rd F h (gN l.es) d:=by simp only[fu.c,fm,Rd]at hh;obtain⟨_,_,rfl,rfl,_,_,rfl,rfl,d,_,rfl,hd,rfl⟩:=hh;exact⟨d,rfl,hd⟩
theorem TN {P : Program} {f g : FuncId} (hf : Is P f (BA g)) (hg : yE P g) : yy P f := by
 refine ⟨hf.2, λF F' h term voted l m a b ha hb ok => jN (rX _ _) (fU hf ?_)⟩;have u := ha;obtain ⟨d, rfl, hd⟩ := G9 ha;obtain ⟨e, s, rfl, he, hs⟩ := pP hb;simp only [BA, go_sem, fE.aE, hd.aA, he.aA, hs.aA];repeat' (first
  | refine tY (λ_ => ?_) (λ_ => ?_)
  | refine HW (λ_ => ?_) (λ_ => ?_)
  | (refine fA ⟨hg.1, hg.2 F _ l _ _ _ (u.up ((eV.b1 _).tr (eV.b1 _))) ok⟩ ?_; rintro _ _ ⟨rfl, rfl⟩)
  | simp only [go_sem, *])
 all_goals refine ⟨?_, (eV.b1 _).tr (eV.b1 _)⟩
 all_goals simp_all [mo]
def td (l:List fE):D:=.sl 17 (l.map fE.c)
def Ei (id group term index last n:Int):fE:=⟨1,id,n,group,term,index,last,0,0,0,0,0,0,0,false,[],[]⟩
def kj (id group term:Int)(l:fu)(c:fq):List fE:=(c.aI.filter λn=>decide (n≠id)).map (Ei id group term l.aC l.aL)
def oS (m:fE):List AV:=m.aE .aD .aD
theorem JE {id group term:Int}{l:fu}{c:fq}:∀m∈kj id group term l c,m.es=[]/\m.aG=[]:=by intro m hm;simp only[kj,Vz]at hm;obtain⟨n,-,rfl⟩:=hm;exact⟨rfl,rfl⟩
theorem Ej (id group term:Int)(l:fu)(c:fq):(kj id group term l c).length<=c.aI.length:=by simp only[kj,UI];exact VB _ _
def x_ (P:Program)(f:FuncId):Prop:=fP P f=true/\∀(F F':Nat->Prop)(h:eW)(id group term:Int)(l:fu)(c:fq)(a b:List AV),fm F h l.c a->fm F' h c.c b->jH l->c.aH (2^30)->
 fC P f [.aA .i64 id,.aA .i64 group,.aA .i64 term,.aF a,.aF b] h λr h'=>kJ h.length h' 17 r ((kj id group term l c).map oS)/\eV eY h h'
theorem TM {P:Program}{f g v:FuncId}(hf:Is P f (Bz g v))(hg:o9 P g)(hv:ot P v fq.aI):x_ P f:=by
 refine⟨hf.2,λF F' h id group term l c a b ha hb ok few=>fU hf ?_⟩;have ha0:=ha;have hb0:=hb;obtain⟨d,rfl,hd⟩:=G9 ha;obtain⟨o,n,e,rfl,ho,hn,he⟩:=n_ hb;simp only[Bz,go_sem,hd.aA,ho.aA,hn.aA,he.aA];have X0:=eV.b2 (h:=h) (some (.aA 3 [[.aA .i64 l.aA,.aA .i64 l.aD,d]] false)) (some (.aA 3 [[o,n,e]] false));have B1:=iO h (some (.aA 3 [[.aA .i64 l.aA,.aA .i64 l.aD,d]] false)) (some (.aA 3 [[o,n,e]] false));refine gh hg.1 (hg.2 F _ l _ (ha0.up X0) ok) ?_;simp only[go_sem];have hb1:=hb0.up X0;have lH:(h++[some (e_.aA 3 [[.aA .i64 l.aA,.aA .i64 l.aD,d]] false)]++[some (e_.aA 3 [[o,n,e]] false)]).length=h.length+2:=by simp
 generalize h++[some (e_.aA 3 [[.aA .i64 l.aA,.aA .i64 l.aD,d]] false)]++[some (e_.aA 3 [[o,n,e]] false)]=H at *;refine fA ⟨hv.1,hv.2 F' H c _ hb1 ⟨by have:=few.1;omega,by have:=few.2.1;omega,by have:=few.2.2;omega⟩⟩ ?_;rintro w h1 ⟨ow,x1⟩;have ow:=eX.lt _ _ ow;have vl:c.aI.length<=2^31:=by have u:=xO (c.aA++c.aC);simp only[Ut]at u;have:=few.1;have:=few.2.1;simp only[fq.aI];omega
 have lw:ik w=some (.aA .i64 c.aI.length):=(eX.rd _ (F':=λ_=>True) (λ_ _=>UF) _ ow).aF;have l1:=x1.1;have X1:=X0.aD x1 (F'':=eY) (λ_ _ x=>x) (λ_ _ x=>x);simp only[go_sem,lw];obtain⟨R,hR⟩:∃R:Int->List AV,R=λn=>oS (Ei id group term l.aC l.aL n):=⟨_,rfl⟩;obtain⟨Q,hQ⟩:∃Q:Int->Bool,Q=λn=>decide (n≠id):=⟨_,rfl⟩;have eA:(kj id group term l c).map oS=(c.aI.filter Q).map R:=by rw[hR,hQ];simp[kj]
 rw[eA];generalize c.aI=vs at *;obtain⟨I,hI⟩:∃I:Nat->fV->eW->Prop,∀m L h',I m L h'↔∃(i:Nat)(o:AV),lk 0 L=.aA .i64 id/\lk 1 L=.aA .i64 group/\lk 2 L=.aA .i64 term/\lk 11 L=.aA .i64 l.aC/\lk 12 L=.aA .i64 l.aL/\lk 13 L=o/\lk 22 L=w/\lk 23 L=.aA .i64 vs.length/\lk 24 L=.aA .i64 i /\
   kJ h1.length h' 17 o (((vs.take i).filter Q).map R)/\eV eY h1 h'/\i<=vs.length/\m=vs.length-i:=⟨_,λ_ _ _=>VW⟩
 refine iM I vs.length ((hI _ _ _).2 ⟨0,.aD,by simp[fj,h_],by simp[fj,h_],by simp[fj,h_],by simp[fj],by simp[fj],by simp[fj],by simp[fj],by simp[fj],by simp[fj],.inl ⟨rfl,by simp⟩,eV.aC _ _,by omega,by omega⟩) ?_;intro m L h2 hh;obtain⟨i,o,k0,k1,k2,k11,k12,k13,k22,k23,k24,oo,X2,hi,rfl⟩:=(hI _ _ _).1 hh;simp only[E8,go_sem,k23,k24];refine iw (λci=>?_) (λci=>?_)
 ·simp at ci;obtain⟨p,hp,hv'⟩:=(eX.rd _ (F':=λ_=>True) (λ_ _=>UF) _ (eX.aC _ (λ_ x=>x) (λm hm y hy=>by rw[X2.2 m hm.2 (by simp[eY])];exact hy) _ ow)).aG (i:=i) ci;have ew:IntKind.i64.wrap (↑i+1)=(i:Int)+1:=gi (by omega);have tk:vs.take (i+1)=vs.take i++[vs[i]]:=U3 ci;simp only[go_sem,k0,k22,k24,hp,hv'];by_cases c0:vs[i]=id
  ·have q:Q vs[i]=false:=by rw[hQ];simp[c0]
   simp only[go_sem,Uu c0,ew,k24];exact⟨_,by omega,(hI _ _ _).2 ⟨i+1,o,by simp[fj,k0],by simp[fj,k1],by simp[fj,k2],by simp[fj,k11],by simp[fj,k12],by simp[fj,k13],by simp[fj,k22],by simp[fj,k23],by simp[fj],by rw[tk,WA];simpa [q] using oo,X2,ci,rfl⟩⟩
  ·have q:Q vs[i]=true:=by rw[hQ];simp[c0]
   have ll:=VB Q (vs.take i);have lt:=Ww i vs;obtain⟨o2,h3,s1,s2,s3⟩:=DW (bytes:=168) (h:=h2++[some (.aA 17 [R vs[i]] false)]) (ys:=[R vs[i]]) oo (eV.b1 _) X2.1 (by simp;omega);rw[<-iq (lR h2 17 [R vs[i]] false (some 1) (len:=1) rfl)]at s1;have eR:R vs[i]=[.aA .i64 1,.aA .i64 id,.aA .i64 vs[i],.aA .i64 group,.aA .i64 term,.aA .i64 l.aC,.aA .i64 l.aL,.aA .i64 0,.aA .i64 0,.aA .i64 0,.aA .i64 0,.aA .i64 0,.aA .i64 0,.aA .i64 0,.aE false,.aD,.aD]:=by rw[hR];rfl
   rw[eR]at s1;simp only[go_sem,Us c0,k0,k1,k2,k11,k12,k13,k24,s1,ew];exact⟨_,by omega,(hI _ _ _).2 ⟨i+1,o2,by simp[fj,k0],by simp[fj,k1],by simp[fj,k2],by simp[fj,k11],by simp[fj,k12],by simp[fj],by simp[fj,k22],by simp[fj,k23],by simp[fj],by rw[tk,WA,Ve];simpa [q] using s2,(X2.tr (eV.b1 _)).aJ s3 (λm hm hm'=>by omega),ci,rfl⟩⟩
 ·simp at ci;obtain rfl:i=vs.length:=by omega
  rw[U7]at oo;simp only[go_sem,k13];exact⟨kJ.lo oo (by omega),X1.tr X2⟩
end Glb
