/-
  A library of its own.
-/
import Derived.Test.YtdeiamnhnfmilaaGreatGlbTurA
set_option linter.unusedSimpArgs false
set_option linter.unusedVariables false
set_option maxRecDepth 10000
set_option maxHeartbeats 16000000
namespace Glb
open Go
def mi (d:Int):Int:=10+d % 10
theorem To (d:Int):(0<=d/\d.tmod 10=d % 10)\/(d<0/\(d.tmod 10=d % 10-10\/d.tmod 10=0/\d % 10=0)):=by
 by_cases h:0<=d
 ·exact .inl ⟨h,Int.tmod_eq_emod_of_nonneg h⟩
 ·have e:d.tmod 10=-((-d) % 10):=by rw[<-Int.tmod_eq_emod_of_nonneg (show 0<=-d by omega),Int.neg_tmod];omega
  refine .inr ⟨by omega,?_⟩;rw[e];omega
def wI (P:Program)(f:FuncId):Prop:=fK P f=true/\∀(h:eX)(d:Int),fC P f [.aA .i64 d] h λr h'=>r=.aA .i64 (mi d)/\h'=h
theorem Uu {P:Program}{f:FuncId}(hf:Is P f BY):wI P f:=by
 refine⟨hf.2,λh d=>fS hf ?_⟩;have z:¬(10:Int)=0:=by decide
 simp only[BY,go_sem,HW,U6 z];have t:=To d;by_cases c:d.tmod 10<0
 ·have e1:IntKind.i64.wrap (d.tmod 10+10)=d % 10:=by rw[gj (by omega)];omega
  have e2:IntKind.i64.wrap (10+d % 10)=mi d:=by rw[gj (by omega)];rfl
  simp only[go_sem,U3 c,e1,e2]
 ·have e1:d.tmod 10=d % 10:=by omega
  have e2:IntKind.i64.wrap (10+d % 10)=mi d:=by rw[gj (by omega)];rfl
  have c':¬d % 10<0:=by omega
  simp only[go_sem,U2 c',e1,e2]
def lZ (term voted:Int)(l:fA)(m:fJ):Bool:=decide (m.aE=1) && (decide (m.aG=term) && ((decide (voted=0) || decide (voted=m.aC)) && l.aN m.aA m.aH))
def yH (P:Program)(f:FuncId):Prop:=fK P f=true/\∀(F F':Nat->Prop)(h:eX)(term voted:Int)(l:fA)(m:fJ)(a b:List AV),fu F h l.c a->fu F' h m.c b->jL l->
 fC P f [.aA .i64 term,.aA .i64 voted,.aF a,.aF b] h λr h'=>r=.aE (lZ term voted l m)/\h'=h
theorem pL {m:fJ}{F:Nat->Prop}{h:eX}{a:List AV}(hh:fu F h m.c a):∃e d,a=m.aD e d/\Rd F h (gK m.es) e/\Rd F h (gq m.aF) d:=by simp only[fJ.c,fu,Rd]at hh;obtain⟨_,_,rfl,rfl,_,_,rfl,rfl,_,_,rfl,rfl,_,_,rfl,rfl,_,_,rfl,rfl,_,_,rfl,rfl,_,_,rfl,rfl,_,_,rfl,rfl,_,_,rfl,rfl,_,_,rfl,rfl,_,_,rfl,rfl,_,_,rfl,rfl,_,_,rfl,rfl,_,_,rfl,rfl,_,_,rfl,rfl,e,_,rfl,he,d,_,rfl,hd,rfl⟩:=hh;exact⟨e,d,rfl,he,hd⟩
theorem HP {l:fA}{F:Nat->Prop}{h:eX}{a:List AV}(hh:fu F h l.c a):∃d,a=[.aA .i64 l.aA,.aA .i64 l.aD,d]/\Rd F h (gK l.es) d:=by simp only[fA.c,fu,Rd]at hh;obtain⟨_,_,rfl,rfl,_,_,rfl,rfl,d,_,rfl,hd,rfl⟩:=hh;exact⟨d,rfl,hd⟩
theorem Ut {P : Program} {f g : FuncId} (hf : Is P f (BX g)) (hg : yO P g) : yH P f := by
 refine ⟨hf.2, λF F' h term voted l m a b ha hb ok => jG (qE _ _) (fS hf ?_)⟩;have u := ha;obtain ⟨d, rfl, hd⟩ := HP ha;obtain ⟨e, s, rfl, he, hs⟩ := pL hb;simp only [BX, go_sem, fJ.aD, hd.aA, he.aA, hs.aA];repeat' (first
  | refine t_ (λ_ => ?_) (λ_ => ?_)
  | refine IT (λ_ => ?_) (λ_ => ?_)
  | (refine fy ⟨hg.1, hg.2 F _ l _ _ _ (u.up ((eW.b1 _).tr (eW.b1 _))) ok⟩ ?_; rintro _ _ ⟨rfl, rfl⟩)
  | simp only [go_sem, *])
 all_goals refine ⟨?_, (eW.b1 _).tr (eW.b1 _)⟩
 all_goals simp_all [lZ]
def td (l:List fJ):D:=.sl 17 (l.map fJ.c)
def EW (id group term index last n:Int):fJ:=⟨1,id,n,group,term,index,last,0,0,0,0,0,0,0,false,[],[]⟩
def kh (id group term:Int)(l:fA)(c:fq):List fJ:=(c.aK.filter λn=>decide (n≠id)).map (EW id group term l.aC l.aL)
def oQ (m:fJ):List AV:=m.aD .aD .aD
theorem Ku {id group term:Int}{l:fA}{c:fq}:∀m∈kh id group term l c,m.es=[]/\m.aF=[]:=by intro m hm;simp only[kh,Wr]at hm;obtain⟨n,-,rfl⟩:=hm;exact⟨rfl,rfl⟩
theorem EX (id group term:Int)(l:fA)(c:fq):(kh id group term l c).length<=c.aK.length:=by simp only[kh,Vg];exact Wz _ _
def yq (P:Program)(f:FuncId):Prop:=fK P f=true/\∀(F F':Nat->Prop)(h:eX)(id group term:Int)(l:fA)(c:fq)(a b:List AV),fu F h l.c a->fu F' h c.c b->jL l->c.aG (2^30)->
 fC P f [.aA .i64 id,.aA .i64 group,.aA .i64 term,.aF a,.aF b] h λr h'=>kv h.length h' 17 r ((kh id group term l c).map oQ)/\eW eZ h h'
theorem Us {P:Program}{f g v:FuncId}(hf:Is P f (BW g v))(hg:oz P g)(hv:oB P v fq.aK):yq P f:=by
 refine⟨hf.2,λF F' h id group term l c a b ha hb ok few=>fS hf ?_⟩;have ha0:=ha;have hb0:=hb;obtain⟨d,rfl,hd⟩:=HP ha;obtain⟨o,n,e,rfl,ho,hn,he⟩:=kI hb;simp only[BW,go_sem,hd.aA,ho.aA,hn.aA,he.aA];have X0:=eW.b2 (h:=h) (some (.aA 3 [[.aA .i64 l.aA,.aA .i64 l.aD,d]] false)) (some (.aA 3 [[o,n,e]] false));have B1:=iF h (some (.aA 3 [[.aA .i64 l.aA,.aA .i64 l.aD,d]] false)) (some (.aA 3 [[o,n,e]] false));refine fZ hg.1 (hg.2 F _ l _ (ha0.up X0) ok) ?_;simp only[go_sem];have hb1:=hb0.up X0;have lH:(h++[some (e_.aA 3 [[.aA .i64 l.aA,.aA .i64 l.aD,d]] false)]++[some (e_.aA 3 [[o,n,e]] false)]).length=h.length+2:=by simp
 generalize h++[some (e_.aA 3 [[.aA .i64 l.aA,.aA .i64 l.aD,d]] false)]++[some (e_.aA 3 [[o,n,e]] false)]=H at *;refine fy ⟨hv.1,hv.2 F' H c _ hb1 ⟨by have:=few.1;omega,by have:=few.2.1;omega,by have:=few.2.2;omega⟩⟩ ?_;rintro w h1 ⟨ow,x1⟩;have ow:=eY.lt _ _ ow;have vl:c.aK.length<=2^31:=by have u:=x9 (c.aA++c.aC);simp only[U1]at u;have:=few.1;have:=few.2.1;simp only[fq.aK];omega
 have lw:ik w=some (.aA .i64 c.aK.length):=(eY.rd _ (F':=λ_=>True) (λ_ _=>Vd) _ ow).aF;have l1:=x1.1;have X1:=X0.aD x1 (F'':=eZ) (λ_ _ x=>x) (λ_ _ x=>x);simp only[go_sem,lw];obtain⟨R,hR⟩:∃R:Int->List AV,R=λn=>oQ (EW id group term l.aC l.aL n):=⟨_,rfl⟩;obtain⟨Q,hQ⟩:∃Q:Int->Bool,Q=λn=>decide (n≠id):=⟨_,rfl⟩;have eA:(kh id group term l c).map oQ=(c.aK.filter Q).map R:=by rw[hR,hQ];simp[kh]
 rw[eA];generalize c.aK=vs at *;obtain⟨I,hI⟩:∃I:Nat->fX->eX->Prop,∀m L h',I m L h'↔∃(i:Nat)(o:AV),lk 0 L=.aA .i64 id/\lk 1 L=.aA .i64 group/\lk 2 L=.aA .i64 term/\lk 11 L=.aA .i64 l.aC/\lk 12 L=.aA .i64 l.aL/\lk 13 L=o/\lk 22 L=w/\lk 23 L=.aA .i64 vs.length/\lk 24 L=.aA .i64 i /\
   kv h1.length h' 17 o (((vs.take i).filter Q).map R)/\eW eZ h1 h'/\i<=vs.length/\m=vs.length-i:=⟨_,λ_ _ _=>WA⟩
 refine iM I vs.length ((hI _ _ _).2 ⟨0,.aD,by simp[fm,g_],by simp[fm,g_],by simp[fm,g_],by simp[fm],by simp[fm],by simp[fm],by simp[fm],by simp[fm],by simp[fm],.inl ⟨rfl,by simp⟩,eW.aC _ _,by omega,by omega⟩) ?_;intro m L h2 hh;obtain⟨i,o,k0,k1,k2,k11,k12,k13,k22,k23,k24,oo,X2,hi,rfl⟩:=(hI _ _ _).1 hh;simp only[FP,go_sem,k23,k24];refine ij (λci=>?_) (λci=>?_)
 ·simp at ci;obtain⟨p,hp,hv'⟩:=(eY.rd _ (F':=λ_=>True) (λ_ _=>Vd) _ (eY.aC _ (λ_ x=>x) (λm hm y hy=>by rw[X2.2 m hm.2 (by simp[eZ])];exact hy) _ ow)).aG (i:=i) ci;have ew:IntKind.i64.wrap (↑i+1)=(i:Int)+1:=gj (by omega);have tk:vs.take (i+1)=vs.take i++[vs[i]]:=VA ci;simp only[go_sem,k0,k22,k24,hp,hv'];by_cases c0:vs[i]=id
  ·have q:Q vs[i]=false:=by rw[hQ];simp[c0]
   simp only[go_sem,U3 c0,ew,k24];exact⟨_,by omega,(hI _ _ _).2 ⟨i+1,o,by simp[fm,k0],by simp[fm,k1],by simp[fm,k2],by simp[fm,k11],by simp[fm,k12],by simp[fm,k13],by simp[fm,k22],by simp[fm,k23],by simp[fm],by rw[tk,List.filter_append];simpa [q] using oo,X2,ci,rfl⟩⟩
  ·have q:Q vs[i]=true:=by rw[hQ];simp[c0]
   have ll:=Wz Q (vs.take i);have lt:=Xk i vs;obtain⟨o2,h3,s1,s2,s3⟩:=EE (bytes:=168) (h:=h2++[some (.aA 17 [R vs[i]] false)]) (ys:=[R vs[i]]) oo (eW.b1 _) X2.1 (by simp;omega);rw[<-iv (lG h2 17 [R vs[i]] false (some 1) (len:=1) rfl)]at s1;have eR:R vs[i]=[.aA .i64 1,.aA .i64 id,.aA .i64 vs[i],.aA .i64 group,.aA .i64 term,.aA .i64 l.aC,.aA .i64 l.aL,.aA .i64 0,.aA .i64 0,.aA .i64 0,.aA .i64 0,.aA .i64 0,.aA .i64 0,.aA .i64 0,.aE false,.aD,.aD]:=by rw[hR];rfl
   rw[eR]at s1;simp only[go_sem,U2 c0,k0,k1,k2,k11,k12,k13,k24,s1,ew];exact⟨_,by omega,(hI _ _ _).2 ⟨i+1,o2,by simp[fm,k0],by simp[fm,k1],by simp[fm,k2],by simp[fm,k11],by simp[fm,k12],by simp[fm],by simp[fm,k22],by simp[fm,k23],by simp[fm],by rw[tk,List.filter_append,VJ];simpa [q] using s2,(X2.tr (eW.b1 _)).aJ s3 (λm hm hm'=>by omega),ci,rfl⟩⟩
 ·simp at ci;obtain rfl:i=vs.length:=by omega
  rw[VB]at oo;simp only[go_sem,k13];exact⟨kv.lo oo (by omega),X1.tr X2⟩
end Glb
