/-
  A library of its own.
-/
import Derived.Test.YtdeiamnhnfmilaaGreatGlbTurA
set_option linter.unusedSimpArgs false
set_option linter.unusedVariables false
set_option maxRecDepth 10000
set_option maxHeartbeats 16000000
namespace Glb
open Go
def jV (d:Int):Int:=10+d % 10
theorem IJ (d:Int):(0<=d/\d.tmod 10=d % 10)\/(d<0/\(d.tmod 10=d % 10-10\/d.tmod 10=0/\d % 10=0)):=by
 by_cases h:0<=d
 ·exact .inl ⟨h,WJ h⟩
 ·have e:d.tmod 10=-((-d) % 10):=by rw[<-WJ (show 0<=-d by omega),Int.neg_tmod];omega
  refine .inr ⟨by omega,?_⟩;rw[e];omega
def oK (P:Program)(f:FuncId):Prop:=fI P f=true/\∀(h:eZ)(d:Int),fy P f [.aA .i64 d] h λr h'=>r=.aA .i64 (jV d)/\h'=h
theorem UM {P:Program}{f:FuncId}(hf:Is P f Cm):oK P f:=by
 refine⟨hf.2,λh d=>fN hf ?_⟩;have z:¬(10:Int)=0:=by decide
 simp only[Cm,go_sem,Dh,Ve z];have t:=IJ d;by_cases c:d.tmod 10<0
 ·have e1:IntKind.i64.wrap (d.tmod 10+10)=d % 10:=by rw[fQ (by omega)];omega
  have e2:IntKind.i64.wrap (10+d % 10)=jV d:=by rw[fQ (by omega)];rfl
  simp only[go_sem,Vc c,e1,e2]
 ·have e1:d.tmod 10=d % 10:=by omega
  have e2:IntKind.i64.wrap (10+d % 10)=jV d:=by rw[fQ (by omega)];rfl
  have c':¬d % 10<0:=by omega
  simp only[go_sem,Va c',e1,e2]
theorem Ot {P:Program}{f:FuncId}(hf:Is P f Ax):oK P f:=by
 refine⟨hf.2,λh d=>fN hf ?_⟩;have z:¬(10:Int)=0:=by decide
 have t:=IJ d;have e1:IntKind.i64.wrap (d.tmod 10+10)=d.tmod 10+10:=fQ (by omega);have e3:(d.tmod 10+10).tmod 10=d % 10:=by rw[WJ (by omega)];omega
 have e2:IntKind.i64.wrap (10+d % 10)=jV d:=by rw[fQ (by omega)];rfl
 simp only[Ax,go_sem,Dh,Ve z,e1,e3,e2]
theorem Oq {P:Program}{f:FuncId}(hf:Is P f Aw):kj P f:=by
 refine⟨hf.2,λF h l a hl ok=>iF (pY (nH _ _ _) (nH _ _ _)) (fN hf ?_)⟩;simp only[fE.c,fu,Rd]at hl;obtain⟨_,_,rfl,rfl,_,_,rfl,rfl,d,_,rfl,hl,rfl⟩:=hl;have ll:=hl.aB;simp only[Vo]at ll;obtain⟨o1,o2,o3,o4⟩:=ok;simp only[Aw,go_sem,hl.aA,ll];refine gx (λc=>?_) (λc=>?_);·simp at c;simp only[go_sem];refine⟨?_,eY.b1 _⟩;simp[fE.aC,fE.aL,c]
 ·simp at c;have e1:IntKind.i64.wrap (l.aA+↑l.es.length)=l.aA+↑l.es.length:=fQ (by omega);have e2:IntKind.i64.wrap ((l.es.length:Int)-1)=(l.es.length:Int)-1:=fQ (by omega);have hlt:l.es.length-1<l.es.length:=by first | omega | (have:=Xg.2 c;omega)
  have ht:((l.es.length:Int)-1).toNat=l.es.length-1:=by omega
  obtain⟨p,cs,hp,t,u⟩:=hl.aD .i64 (i:=(l.es.length:Int)-1) (d:=(l.es[l.es.length-1]).c) (by omega) (by rw[ht];simp[hlt]);simp only[gj.c,fu,Rd]at u;obtain⟨_,_,rfl,rfl,_,_,rfl,rfl,d',_,rfl,_,rfl⟩:=u;have b:=mv t (eY.b1 (some (.aA 3 [[.aA .i64 l.aA,.aA .i64 l.aB,d]] false)));simp only[go_sem,e1,e2,hp,ko t,jJ b];refine⟨?_,eY.b1 _⟩;simp[fE.aC,fE.aL,hlt]
def mq (term voted:Int)(l:fE)(m:fB):Bool:=decide (m.aD=1) && (decide (m.aF=term) && ((decide (voted=0) || decide (voted=m.aC)) && l.aN m.aA m.aI))
def rG (P:Program)(f:FuncId):Prop:=fI P f=true/\∀(F F':Nat->Prop)(h:eZ)(term voted:Int)(l:fE)(m:fB)(a b:List AV),fu F h l.c a->fu F' h m.c b->jl l->
 fy P f [.aA .i64 term,.aA .i64 voted,.aE a,.aE b] h λr h'=>r=.aD (mq term voted l m)/\h'=h
theorem jS {m:fB}{F:Nat->Prop}{h:eZ}{a:List AV}(hh:fu F h m.c a):∃e d,a=m.aB e d/\Rd F h (f_ m.es) e/\Rd F h (fT m.aE) d:=by simp only[fB.c,fu,Rd]at hh;obtain⟨_,_,rfl,rfl,_,_,rfl,rfl,_,_,rfl,rfl,_,_,rfl,rfl,_,_,rfl,rfl,_,_,rfl,rfl,_,_,rfl,rfl,_,_,rfl,rfl,_,_,rfl,rfl,_,_,rfl,rfl,_,_,rfl,rfl,_,_,rfl,rfl,_,_,rfl,rfl,_,_,rfl,rfl,_,_,rfl,rfl,e,_,rfl,he,d,_,rfl,hd,rfl⟩:=hh;exact⟨e,d,rfl,he,hd⟩
theorem xC {l:fE}{F:Nat->Prop}{h:eZ}{a:List AV}(hh:fu F h l.c a):∃d,a=[.aA .i64 l.aA,.aA .i64 l.aB,d]/\Rd F h (f_ l.es) d:=by simp only[fE.c,fu,Rd]at hh;obtain⟨_,_,rfl,rfl,_,_,rfl,rfl,d,_,rfl,hd,rfl⟩:=hh;exact⟨d,rfl,hd⟩
theorem UL {P : Program} {f g : FuncId} (hf : Is P f (Cl g)) (hg : yy P g) : rG P f := by
 refine ⟨hf.2, λF F' h term voted l m a b ha hb ok => iF (kD _ _) (fN hf ?_)⟩;have t := ha;obtain ⟨d, rfl, hd⟩ := xC ha;obtain ⟨e, s, rfl, he, hs⟩ := jS hb;simp only [Cl, go_sem, fB.aB, hd.aA, he.aA, hs.aA];repeat' (first
  | refine ph (λ_ => ?_) (λ_ => ?_)
  | refine DB (λ_ => ?_) (λ_ => ?_)
  | (refine fq ⟨hg.1, hg.2 F _ l _ _ _ (t.up ((eY.b1 _).tr (eY.b1 _))) ok⟩ ?_; rintro _ _ ⟨rfl, rfl⟩)
  | simp only [go_sem, *])
 all_goals refine ⟨?_, (eY.b1 _).tr (eY.b1 _)⟩
 all_goals simp_all [mq]
theorem Oo {P : Program} {f g : FuncId} (hf : Is P f (Av g)) (hg : kj P g) : rG P f := by
 refine ⟨hf.2, λF F' h term voted l m a b ha hb ok => iF (kD _ _) (fN hf ?_)⟩;have t := ha;obtain ⟨d, rfl, hd⟩ := xC ha;obtain ⟨e, s, rfl, he, hs⟩ := jS hb;simp only [Av, go_sem, fB.aB, hd.aA, he.aA, hs.aA];repeat' (first
  | refine ph (λ_ => ?_) (λ_ => ?_)
  | refine DB (λ_ => ?_) (λ_ => ?_)
  | refine gx (λ_ => ?_) (λ_ => ?_)
  | (refine fq ⟨hg.1, hg.2 F _ l _ (t.up ((eY.b1 _).tr (eY.b1 _))) ok⟩ ?_; rintro _ _ ⟨rfl, rfl⟩)
  | simp only [go_sem, *])
 all_goals refine ⟨?_, (eY.b1 _).tr (eY.b1 _)⟩
 all_goals simp_all [mq, fE.aN]
def ks (l:List fB):D:=.sl 17 (l.map fB.c)
def yP (P:Program)(f:FuncId):Prop:=
 fI P f=true/\∀(F F':Nat->Prop)(h:eZ)(x y:List fB)(a b:AV),Rd F h (ks x) a->Rd F' h (ks y) b->x.length<=2^40->(∀e∈x,iK e.es/\e.aE.length<=2^40)->fy P f [a,b] h λr h'=>r=.aD (decide (x=y))/\h'=h
theorem J3 {P:Program}{f g:FuncId}(hf:Is P f (zD g))(hg:qq P g):yP P f:=by
 refine⟨hf.2,λF F' h x y a b hx hy hl hd=>fN hf ?_⟩;have lx:g_ a=some (.aA .i64 x.length):=by simpa using hx.aB
 have ly:g_ b=some (.aA .i64 y.length):=by simpa using hy.aB
 simp only[zD,go_sem,lx,ly];refine gx (λc=>?_) (λc=>?_);·simp only[go_sem];simp at c;simp;rintro rfl;exact c rfl
 ·simp only[go_sem];simp at c;have c':x.length=y.length:=by omega
  refine gJ (λm L h'=>∃i:Nat,lk 0 L=a/\lk 1 L=b/\lk 5 L=.aA .i64 i/\h'=h/\i<=x.length/\m=x.length-i/\∀j:Nat,j<i->x[j]?=y[j]?) x.length ?_ ?_;·exact⟨0,by simp[fi,ga],by simp[fi,ga],by simp[fi],rfl,by omega,by omega,by omega⟩
  ·rintro m L h' ⟨i,h0,h1,h5,rfl,hi,rfl,hj⟩;simp only[Fp,go_sem,lx,h0,h5];refine gx (λci=>?_) (λci=>?_)
   ·simp at ci;have iy:i<y.length:=by omega
    obtain⟨p,cs,hp,C,E⟩:=hx.aD .i64 (i:=i) (d:=x[i].c) (by omega) (by simp[ci]);obtain⟨q,cs',hq,u,t⟩:=hy.aD .i64 (i:=i) (d:=y[i].c) (by omega) (by simp[iy]);have e:IntKind.i64.wrap (↑i+1)=(i:Int)+1:=fQ (by omega);have l1:cs.length=17:=by rw[qp E];rfl
    have l2:cs'.length=17:=by rw[qp t];rfl
    have t1:cs.take 17=cs:=V5 (by omega);have t2:cs'.take 17=cs':=V5 (by omega);simp only[go_sem,h0,h1,h5,hp,hq,hP C,hP u,l1,l2,t1,t2];refine fR hg.1 (hg.2 F F' _ x[i] y[i] _ _ E t (hd _ (by simp)).1 (hd _ (by simp)).2) ?_;simp only[go_sem,hP C,hP u,l1,l2,t1,t2,or_true];refine gx (λce=>?_) (λce=>?_);·simp only[go_sem];simp at ce;simp;rintro rfl;exact ce rfl
    ·simp only[go_sem,h0,h1,h5,e];simp at ce;refine⟨_,?_,i+1,by simp,ci,rfl,λj hj'=>?_⟩;·omega
     ·rcases Wc j i with hlt | hge;·exact hj j hlt
      ·obtain rfl:j=i:=by omega
       simp[ci,iy,ce]
   ·simp at ci;simp only[go_sem];obtain rfl:i=x.length:=by omega
    simp[Ct c' hj]
def yY (id group term index last n:Int):fB:=⟨1,id,n,group,term,index,last,0,0,0,0,0,0,0,false,[],[]⟩
def jo (id group term:Int)(l:fE)(c:fG):List fB:=(c.aE.filter λn=>decide (n≠id)).map (yY id group term l.aC l.aL)
def jY (m:fB):List AV:=m.aB .aB .aB
theorem y0 {id group term:Int}{l:fE}{c:fG}:∀m∈jo id group term l c,m.es=[]/\m.aE=[]:=by intro m hm;simp only[jo,Wl]at hm;obtain⟨n,-,rfl⟩:=hm;exact⟨rfl,rfl⟩
theorem yZ (id group term:Int)(l:fE)(c:fG):(jo id group term l c).length<=c.aE.length:=by simp only[jo,Vo];exact We _ _
def pZ (P:Program)(f:FuncId):Prop:=fI P f=true/\∀(F F':Nat->Prop)(h:eZ)(id group term:Int)(l:fE)(c:fG)(a b:List AV),fu F h l.c a->fu F' h c.c b->jl l->c.aF (2^30)->
 fy P f [.aA .i64 id,.aA .i64 group,.aA .i64 term,.aE a,.aE b] h λr h'=>iJ h.length h' 17 r ((jo id group term l c).map jY)/\eY fj h h'
theorem UK {P:Program}{f g v:FuncId}(hf:Is P f (Ck g v))(hg:kj P g)(hv:nL P v fG.aE):pZ P f:=by
 refine⟨hf.2,λF F' h id group term l c a b ha hb ok few=>fN hf ?_⟩;have ha0:=ha;have hb0:=hb;obtain⟨d,rfl,hd⟩:=xC ha;obtain⟨o,n,e,rfl,ho,hn,he⟩:=kx hb;simp only[Ck,go_sem,hd.aA,ho.aA,hn.aA,he.aA];have X0:=eY.b2 (h:=h) (some (.aA 3 [[.aA .i64 l.aA,.aA .i64 l.aB,d]] false)) (some (.aA 3 [[o,n,e]] false));have B1:=iq h (some (.aA 3 [[.aA .i64 l.aA,.aA .i64 l.aB,d]] false)) (some (.aA 3 [[o,n,e]] false));refine fR hg.1 (hg.2 F _ l _ (ha0.up X0) ok) ?_;simp only[go_sem];have hb1:=hb0.up X0;have lH:(h++[some (fh.aA 3 [[.aA .i64 l.aA,.aA .i64 l.aB,d]] false)]++[some (fh.aA 3 [[o,n,e]] false)]).length=h.length+2:=by simp
 generalize h++[some (fh.aA 3 [[.aA .i64 l.aA,.aA .i64 l.aB,d]] false)]++[some (fh.aA 3 [[o,n,e]] false)]=H at *;refine fq ⟨hv.1,hv.2 F' H c _ hb1 ⟨by have:=few.1;omega,by have:=few.2.1;omega,by have:=few.2.2;omega⟩⟩ ?_;rintro w h1 ⟨ow,x1⟩;have ow:=e_.lt _ _ ow;have vl:c.aE.length<=2^31:=by have u:=th (c.aA++c.aB);simp only[Vj]at u;have:=few.1;have:=few.2.1;simp only[fG.aE];omega
 have lw:g_ w=some (.aA .i64 c.aE.length):=(e_.rd _ (F':=λ_=>True) (λ_ _=>Vp) _ ow).aE;have l1:=x1.1;have X1:=X0.aB x1 (F'':=fj) (λ_ _ x=>x) (λ_ _ x=>x);simp only[go_sem,lw];obtain⟨R,hR⟩:∃R:Int->List AV,R=λn=>jY (yY id group term l.aC l.aL n):=⟨_,rfl⟩;obtain⟨Q,hQ⟩:∃Q:Int->Bool,Q=λn=>decide (n≠id):=⟨_,rfl⟩;have eA:(jo id group term l c).map jY=(c.aE.filter Q).map R:=by rw[hR,hQ];simp[jo]
 rw[eA];generalize c.aE=vs at *;obtain⟨I,hI⟩:∃I:Nat->fY->eZ->Prop,∀m L h',I m L h'↔∃(i:Nat)(o:AV),lk 0 L=.aA .i64 id/\lk 1 L=.aA .i64 group/\lk 2 L=.aA .i64 term/\lk 11 L=.aA .i64 l.aC/\lk 12 L=.aA .i64 l.aL/\lk 13 L=o/\lk 22 L=w/\lk 23 L=.aA .i64 vs.length/\lk 24 L=.aA .i64 i /\
   iJ h1.length h' 17 o (((vs.take i).filter Q).map R)/\eY fj h1 h'/\i<=vs.length/\m=vs.length-i:=⟨_,λ_ _ _=>Wu⟩
 refine gJ I vs.length ((hI _ _ _).2 ⟨0,.aB,by simp[fi,ga],by simp[fi,ga],by simp[fi,ga],by simp[fi],by simp[fi],by simp[fi],by simp[fi],by simp[fi],by simp[fi],.inl ⟨rfl,by simp⟩,eY.aC _ _,by omega,by omega⟩) ?_;intro m L h2 hh;obtain⟨i,o,k0,k1,k2,k11,k12,k13,k22,k23,k24,oo,X2,hi,rfl⟩:=(hI _ _ _).1 hh;simp only[Gx,go_sem,k23,k24];refine gx (λci=>?_) (λci=>?_)
 ·simp at ci;obtain⟨p,hp,hv'⟩:=(e_.rd _ (F':=λ_=>True) (λ_ _=>Vp) _ (e_.aB _ (λ_ x=>x) (λm hm y hy=>by rw[X2.2 m hm.2 (by simp[fj])];exact hy) _ ow)).aF (i:=i) ci;have ew:IntKind.i64.wrap (↑i+1)=(i:Int)+1:=fQ (by omega);have tk:vs.take (i+1)=vs.take i++[vs[i]]:=Vv ci;simp only[go_sem,k0,k22,k24,hp,hv'];by_cases c0:vs[i]=id
  ·have q:Q vs[i]=false:=by rw[hQ];simp[c0]
   simp only[go_sem,Vc c0,ew,k24];exact⟨_,by omega,(hI _ _ _).2 ⟨i+1,o,by simp[fi,k0],by simp[fi,k1],by simp[fi,k2],by simp[fi,k11],by simp[fi,k12],by simp[fi,k13],by simp[fi,k22],by simp[fi,k23],by simp[fi],by rw[tk,Wt];simpa [q] using oo,X2,ci,rfl⟩⟩
  ·have q:Q vs[i]=true:=by rw[hQ];simp[c0]
   have ll:=We Q (vs.take i);have lt:=Wn i vs;obtain⟨o2,h3,s1,s2,s3⟩:=wD (bytes:=168) (h:=h2++[some (.aA 17 [R vs[i]] false)]) (ys:=[R vs[i]]) oo (eY.b1 _) X2.1 (by simp;omega);rw[<-ic (jn h2 17 [R vs[i]] false (some 1) (len:=1) rfl)]at s1;have eR:R vs[i]=[.aA .i64 1,.aA .i64 id,.aA .i64 vs[i],.aA .i64 group,.aA .i64 term,.aA .i64 l.aC,.aA .i64 l.aL,.aA .i64 0,.aA .i64 0,.aA .i64 0,.aA .i64 0,.aA .i64 0,.aA .i64 0,.aA .i64 0,.aD false,.aB,.aB]:=by rw[hR];rfl
   rw[eR]at s1;simp only[go_sem,Va c0,k0,k1,k2,k11,k12,k13,k24,s1,ew];exact⟨_,by omega,(hI _ _ _).2 ⟨i+1,o2,by simp[fi,k0],by simp[fi,k1],by simp[fi,k2],by simp[fi,k11],by simp[fi,k12],by simp[fi],by simp[fi,k22],by simp[fi,k23],by simp[fi],by rw[tk,Wt,VI];simpa [q] using s2,(X2.tr (eY.b1 _)).aI s3 (λm hm hm'=>by omega),ci,rfl⟩⟩
 ·simp at ci;obtain rfl:i=vs.length:=by omega
  rw[VH]at oo;simp only[go_sem,k13];exact⟨iJ.lo oo (by omega),X1.tr X2⟩
theorem On {P:Program}{f g v:FuncId}(hf:Is P f (Au v g))(hg:kj P g)(hv:pw P v fG.aE):pZ P f:=by
 refine⟨hf.2,λF F' h id group term l c a b ha hb ok few=>fN hf ?_⟩;have ha0:=ha;have hb0:=hb;obtain⟨d,rfl,hd⟩:=xC ha;obtain⟨o,n,e,rfl,ho,hn,he⟩:=kx hb;simp only[Au,go_sem,hd.aA,ho.aA,hn.aA,he.aA];have X0:=eY.b2 (h:=h) (some (.aA 3 [[.aA .i64 l.aA,.aA .i64 l.aB,d]] false)) (some (.aA 3 [[o,n,e]] false));have B0:=iE h (some (.aA 3 [[.aA .i64 l.aA,.aA .i64 l.aB,d]] false)) (some (.aA 3 [[o,n,e]] false));have ha1:=ha0.up X0;have hb1:=hb0.up X0;have lH:(h++[some (fh.aA 3 [[.aA .i64 l.aA,.aA .i64 l.aB,d]] false)]++[some (fh.aA 3 [[o,n,e]] false)]).length=h.length+2:=by simp
 generalize h++[some (fh.aA 3 [[.aA .i64 l.aA,.aA .i64 l.aB,d]] false)]++[some (fh.aA 3 [[o,n,e]] false)]=h1 at *;refine fq ⟨hv.1,hv.2 F' h1 c _ hb1 ⟨by have:=few.1;omega,by have:=few.2.1;omega,by have:=few.2.2;omega⟩⟩ ?_;rintro w h1' ⟨ow,rfl⟩;have vl:c.aE.length<=2^31:=by have u:=th (c.aA++c.aB);simp only[Vj]at u;have:=few.1;have:=few.2.1;simp only[fG.aE];omega
 have lw:g_ w=some (.aA .i64 c.aE.length):=(ow.rd (λ_=>True) []).aE;simp only[go_sem,B0];refine fR hg.1 (hg.2 F _ l _ ha1 ok) ?_;simp only[go_sem];obtain⟨R,hR⟩:∃R:Int->List AV,R=λn=>jY (yY id group term l.aC l.aL n):=⟨_,rfl⟩;obtain⟨Q,hQ⟩:∃Q:Int->Bool,Q=λn=>decide (n≠id):=⟨_,rfl⟩;have eA:(jo id group term l c).map jY=(c.aE.filter Q).map R:=by rw[hR,hQ];simp[jo]
 rw[eA];generalize c.aE=vs at *;obtain⟨I,hI⟩:∃I:Nat->fY->eZ->Prop,∀m L h',I m L h'↔∃(i:Nat)(o:AV),lk 0 L=.aA .i64 id/\lk 1 L=.aA .i64 group/\lk 2 L=.aA .i64 term/\lk 13 L=.aA .i64 l.aC/\lk 14 L=.aA .i64 l.aL/\lk 11 L=o/\lk 12 L=w/\lk 15 L=.aA .i64 i /\
   iJ h1'.length h' 17 o (((vs.take i).filter Q).map R)/\eY fj h1' h'/\i<=vs.length/\m=vs.length-i:=⟨_,λ_ _ _=>Wu⟩
 refine gJ I vs.length ((hI _ _ _).2 ⟨0,.aB,by simp[fi,ga],by simp[fi,ga],by simp[fi,ga],by simp[fi],by simp[fi],by simp[fi],by simp[fi],by simp[fi],.inl ⟨rfl,by simp⟩,eY.aC _ _,by omega,by omega⟩) ?_;intro m L h2 hh;obtain⟨i,o,k0,k1,k2,k11,k12,k13,k22,k24,oo,X2,hi,rfl⟩:=(hI _ _ _).1 hh;simp only[FV,go_sem,k22,k24,lw];refine gx (λci=>?_) (λci=>?_)
 ·simp at ci;obtain⟨p,hp,hv'⟩:=(ow.rd (λ_=>True) h2).aF (i:=i) ci;have ew:IntKind.i64.wrap (↑i+1)=(i:Int)+1:=fQ (by omega);have tk:vs.take (i+1)=vs.take i++[vs[i]]:=Vv ci;simp only[go_sem,k0,k22,k24,hp,hv'];by_cases c0:vs[i]=id
  ·have q:Q vs[i]=false:=by rw[hQ];simp[c0]
   simp only[go_sem,Vc c0,ew,k24];exact⟨_,by omega,(hI _ _ _).2 ⟨i+1,o,by simp[fi,k0],by simp[fi,k1],by simp[fi,k2],by simp[fi,k11],by simp[fi,k12],by simp[fi,k13],by simp[fi,k22],by simp[fi],by rw[tk,Wt];simpa [q] using oo,X2,ci,rfl⟩⟩
  ·have q:Q vs[i]=true:=by rw[hQ];simp[c0]
   have ll:=We Q (vs.take i);have lt:=Wn i vs;obtain⟨o2,h3,s1,s2,s3⟩:=wD (bytes:=168) (h:=h2++[some (.aA 17 [R vs[i]] false)]) (ys:=[R vs[i]]) oo (eY.b1 _) X2.1 (by simp;omega);rw[<-ic (jn h2 17 [R vs[i]] false (some 1) (len:=1) rfl)]at s1;have eR:R vs[i]=[.aA .i64 1,.aA .i64 id,.aA .i64 vs[i],.aA .i64 group,.aA .i64 term,.aA .i64 l.aC,.aA .i64 l.aL,.aA .i64 0,.aA .i64 0,.aA .i64 0,.aA .i64 0,.aA .i64 0,.aA .i64 0,.aA .i64 0,.aD false,.aB,.aB]:=by rw[hR];rfl
   rw[eR]at s1;simp only[go_sem,Va c0,k0,k1,k2,k11,k12,k13,k22,k24,hp,hv',s1,ew];exact⟨_,by omega,(hI _ _ _).2 ⟨i+1,o2,by simp[fi,k0],by simp[fi,k1],by simp[fi,k2],by simp[fi,k11],by simp[fi,k12],by simp[fi],by simp[fi,k22],by simp[fi],by rw[tk,Wt,VI];simpa [q] using s2,(X2.tr (eY.b1 _)).aI s3 (λm hm hm'=>by omega),ci,rfl⟩⟩
 ·simp at ci;obtain rfl:i=vs.length:=by omega
  rw[VH]at oo;simp only[go_sem,k13];exact⟨iJ.lo oo (by omega),X0.tr X2⟩
end Glb
