/-
  A library of its own.
-/
import Derived.Test.YtdeiamnhnfmilaaGreatGlbLibD
import Derived.Test.YtdeiamnhnfmilaaGreatGlbCod
set_option linter.unusedSimpArgs false
set_option linter.unusedVariables false
set_option maxRecDepth 10000
set_option maxHeartbeats 4000000
open Nat (reduceAdd reduceEqDiff)
namespace Glb
open Go
def fT (l:List Int):D:=.sl 1 (l.map λn=>[.aA .u8 n])
def fK (l:List Int):D:=.sl 1 (l.map λn=>[.aA .i64 n])
structure gj where
 aB:Int
 aC:Int
 aA:List Int
 deriving DecidableEq
theorem gj.aE (x y:gj):decide (x=y)=(decide (x.aB=y.aB) && (decide (x.aC=y.aC) && decide (x.aA=y.aA))):=by cases x;cases y;simp[Xo]
def gj.c (e:gj):List D:=[.aA .i64 e.aB,.aA .i64 e.aC,fT e.aA]
def f_ (l:List gj):D:=.sl 3 (l.map gj.c)
structure fE where
 aA:Int
 aB:Int
 es:List gj
 deriving DecidableEq
theorem fE.aP (x y:fE):decide (x=y)=(decide (x.aA=y.aA) && (decide (x.aB=y.aB) && decide (x.es=y.es))):=by cases x;cases y;simp[Xo]
def fE.c (l:fE):List D:=[.aA .i64 l.aA,.aA .i64 l.aB,f_ l.es]
theorem iF {P:Program}{f:FuncId}{t:List AV}{h:eZ}{b:AV}(hb:b.aJ h.length=true)(hc:fy P f t h λr h'=>r=b/\eY fj h h'):fy P f t h λr h'=>r=b/\h'=h:=
 (fy.aC (K':=λr=>r=b) hc λr h' hk=>⟨hk.2,by rw[hk.1];exact hb,hk.1⟩).aA λ_ _ hk=>⟨hk.2,hk.1⟩
theorem nH (n:Nat)(k:IntKind)(x:Int):(AV.aA k x).aJ n=true:=by simp only[AV.aJ]
theorem kD (n:Nat)(b:Bool):(AV.aD b).aJ n=true:=by simp only[AV.aJ]
theorem pY {n:Nat}{x y:AV}(h:x.aJ n=true)(h':y.aJ n=true):(AV.aI [x,y]).aJ n=true:=by simp only[AV.aJ,AV.aQ,h,h',Bool.and_self]
def m_ (P:Program)(f:FuncId)(k:IntKind):Prop:=
 fI P f=true/\∀(F:Nat->Prop)(h:eZ)(x y:List Int)(a b:AV),Rd F h (.sl 1 (x.map λn=>[.aA k n])) a->Rd F h (.sl 1 (y.map λn=>[.aA k n])) b->x.length<=2^40->
  fy P f [a,b] h λr h'=>r=.aD (decide (x=y))/\h'=h
theorem Iy {P:Program}{f:FuncId}(k:IntKind)(hf:Is P f wQ):m_ P f k:=by
 refine⟨hf.2,λF h x y a b hx hy hl=>fN hf ?_⟩;have lx:=hx.aB;have ly:=hy.aB;simp only[Vo]at lx ly;simp only[wQ,go_sem,lx,ly];refine gx (λc=>?_) (λc=>?_);·simp only[go_sem];simp at c;simp;rintro rfl;exact c rfl
 ·simp only[go_sem];simp at c;have c':x.length=y.length:=by omega
  refine gJ (λm L h'=>∃i:Nat,lk 0 L=a/\lk 1 L=b/\lk 5 L=.aA .i64 i/\h'=h/\i<=x.length/\m=x.length-i/\∀j:Nat,j<i->x[j]?=y[j]?) x.length ?_ ?_;·exact⟨0,by simp[fi,ga],by simp[fi,ga],by simp[fi],rfl,by omega,by omega,by omega⟩
  ·rintro m L h' ⟨i,h0,h1,h5,rfl,hi,rfl,hj⟩;simp only[Fi,go_sem,lx,h0,h5];refine gx (λci=>?_) (λci=>?_)
   ·simp at ci;have iy:i<y.length:=by omega
    obtain⟨p,cs,hp,I,C⟩:=hx.aD .i64 (i:=i) (d:=[.aA k x[i]]) (by omega) (by simp[ci]);obtain⟨q,cs',hq,E,t⟩:=hy.aD .i64 (i:=i) (d:=[.aA k y[i]]) (by omega) (by simp[iy]);simp only[fu,Rd]at C t;obtain⟨_,_,rfl,rfl,rfl⟩:=C;obtain⟨_,_,rfl,rfl,rfl⟩:=t;have e:IntKind.i64.wrap (↑i+1)=(i:Int)+1:=fQ (by omega);simp only[go_sem,h0,h1,h5,hp,hq,hP I,hP E];refine gx (λce=>?_) (λce=>?_);·simp only[go_sem];simp at ce;simp;rintro rfl;exact ce rfl
    ·simp only[go_sem,h0,h1,h5,e];simp at ce;refine⟨_,?_,i+1,by simp,ci,rfl,λj hj'=>?_⟩;·omega
     ·rcases Wc j i with hlt | u;·exact hj j hlt
      ·obtain rfl:j=i:=by omega
       simp[ci,iy,ce]
   ·simp at ci;simp only[go_sem];obtain rfl:i=x.length:=by omega
    have:x=y:=by
     apply VT;intro j;rcases Wc j x.length with hlt | u;·exact hj j hlt
     ·rw[VJ u,VJ (by omega)]
    simp[this]
theorem JT {P:Program}{f:FuncId}(hf:Is P f wQ):m_ P f .u8:=Iy .u8 hf
theorem JZ {P:Program}{f:FuncId}(hf:Is P f Fo):m_ P f .i64:=Iy .i64 hf
def lj (P:Program)(f:FuncId)(k:IntKind):Prop:=
 fI P f=true/\∀(F:Nat->Prop)(h:eZ)(x:List Int)(a:AV),Rd F h (.sl 1 (x.map λn=>[.aA k n])) a->x.length<=2^40->
  fy P f [a] h λr h'=>e_ (.sl 1 (x.map λn=>[.aA k n])) (λm=>h.length<=m) h' r/\gq h' r/\eY fj h h'
theorem Jg {P:Program}{f:FuncId}(hf:Is P f zd):lj P f .u8:=by
 refine⟨hf.2,λF h x a hx hl=>fN hf ?_⟩;have lx:=hx.aB;simp only[Vo]at lx;simp only[zd,go_sem];refine gJ (λm L h'=>∃(i:Nat)(o:AV),lk 0 L=a/\lk 3 L=o/\lk 4 L=.aA .i64 i/\i<=x.length/\m=x.length-i /\
  e_ (.sl 1 ((x.take i).map λn=>[.aA .u8 n])) (λm=>h.length<=m) h' o/\gq h' o/\eY fj h h') x.length ?_ ?_
 ·exact⟨0,_,by simp[fi,ga],by simp[fi],by simp[fi],by omega,by omega,e_.aC 1,Vp,eY.aC _ _⟩
 ·rintro m L h' ⟨i,o,h0,h3,h4,hi,rfl,ho,hc,he⟩;simp only[Fc,go_sem,lx,h0,h4];refine gx (λci=>?_) (λci=>?_)
  ·simp at ci;obtain⟨p,cs,hp,t,b⟩:=(Rd.aC (λ_ x=>x) (he.aF F) _ _ hx).aD .i64 (i:=i) (d:=[.aA .u8 x[i]]) (by omega) (by simp[ci]);simp only[fu,Rd]at b;obtain⟨_,_,rfl,rfl,rfl⟩:=b;have e:IntKind.i64.wrap (↑i+1)=(i:Int)+1:=fQ (by omega);obtain⟨o',h2,ha,u,E,C⟩:=jr (bytes:=1) (es:=[[.aA .u8 x[i]]]) (h:=h'++[some (.aA 1 [[.aA .u8 x[i]]] false)]) ho hc (eY.aE _ _ _) (ys:=[[.aA .u8 x[i]]])
    (by simp[fP,fW,e_]) he.1 (by simp;omega)
   simp only[go_sem,reduceEqDiff,reduceAdd,h0,h3,h4,e,hp,hP t,ic (jn h' 1 [[.aA .u8 x[i]]] false (some 1) (len:=1) rfl),ha];refine⟨_,?_,i+1,o',rfl,by simp,ci,rfl,?_,E,?_⟩;·omega
   ·have:x.take (i+1)=x.take i++[x[i]]:=by simp[ci]
    rw[this,VI];exact u
   ·exact (he.aB (eY.aE fj h' _) (λ_ _ x=>x) (λ_ _ x=>x)).aB C (λ_ _ x=>x) (λm hm hm'=>by omega)
  ·simp at ci;simp only[go_sem,h3];obtain rfl:i=x.length:=by omega
   rw[VH]at ho;exact⟨ho,hc,he⟩
theorem Jm {P:Program}{f:FuncId}(hf:Is P f zj):lj P f .i64:=by
 refine⟨hf.2,λF h x a hx hl=>fN hf ?_⟩;have lx:=hx.aB;simp only[Vo]at lx;simp only[zj,go_sem];refine gJ (λm L h'=>∃(i:Nat)(o:AV),lk 0 L=a/\lk 3 L=o/\lk 4 L=.aA .i64 i/\i<=x.length/\m=x.length-i /\
  e_ (.sl 1 ((x.take i).map λn=>[.aA .i64 n])) (λm=>h.length<=m) h' o/\gq h' o/\eY fj h h') x.length ?_ ?_
 ·exact⟨0,_,by simp[fi,ga],by simp[fi],by simp[fi],by omega,by omega,e_.aC 1,Vp,eY.aC _ _⟩
 ·rintro m L h' ⟨i,o,h0,h3,h4,hi,rfl,ho,hc,he⟩;simp only[Ff,go_sem,lx,h0,h4];refine gx (λci=>?_) (λci=>?_)
  ·simp at ci;obtain⟨p,cs,hp,t,b⟩:=(Rd.aC (λ_ x=>x) (he.aF F) _ _ hx).aD .i64 (i:=i) (d:=[.aA .i64 x[i]]) (by omega) (by simp[ci]);simp only[fu,Rd]at b;obtain⟨_,_,rfl,rfl,rfl⟩:=b;have e:IntKind.i64.wrap (↑i+1)=(i:Int)+1:=fQ (by omega);obtain⟨o',h2,ha,u,E,C⟩:=jr (bytes:=8) (es:=[[.aA .i64 x[i]]]) (h:=h'++[some (.aA 1 [[.aA .i64 x[i]]] false)]) ho hc (eY.aE _ _ _) (ys:=[[.aA .i64 x[i]]])
    (by simp[fP,fW,e_]) he.1 (by simp;omega)
   simp only[go_sem,reduceEqDiff,reduceAdd,h0,h3,h4,e,hp,hP t,ic (jn h' 1 [[.aA .i64 x[i]]] false (some 1) (len:=1) rfl),ha];refine⟨_,?_,i+1,o',rfl,by simp,ci,rfl,?_,E,?_⟩;·omega
   ·have:x.take (i+1)=x.take i++[x[i]]:=by simp[ci]
    rw[this,VI];exact u
   ·exact (he.aB (eY.aE fj h' _) (λ_ _ x=>x) (λ_ _ x=>x)).aB C (λ_ _ x=>x) (λm hm hm'=>by omega)
  ·simp at ci;simp only[go_sem,h3];obtain rfl:i=x.length:=by omega
   rw[VH]at ho;exact⟨ho,hc,he⟩
theorem J6 {P:Program}{f:FuncId}(hf:Is P f zF):iU P f (.sl 1 [.aA .u8]):=by
 refine⟨hf.2,λF h a ho=>fN hf ?_⟩;have lx:=ho.aD;simp only[zF,go_sem];refine gJ (λm L h'=>∃(i:Nat),lk 0 L=a/\lk 2 L=.aA .i64 i/\i<=jk a/\m=jk a-i/\eY F h h'/\ik h h') (jk a) ?_ ?_;·exact⟨0,by simp[fi,ga],by simp[fi],by omega,by omega,eY.aC _ _,ik.aB _⟩
 ·rintro m L h' ⟨i,h0,h2,hi,rfl,he,hp⟩;simp only[Fq,go_sem,lx,h0,h2];refine gx (λci=>?_) (λci=>?_)
  ·simp at ci;obtain⟨n,off,row,g,cs,h5,h6,h7,h8,h9⟩:=(hp.1 _ _ _ ho).aC ci;simp only[gW,gn]at h9;obtain⟨_,_,rfl,⟨v,rfl⟩,rfl⟩:=h9;have hl:=ho.aE;have e:IntKind.i64.wrap (↑i+1)=(i:Int)+1:=fQ (by omega);have t:im h' (.aC n 1 (off+i) 0)=some [.aA .u8 v]:=by simp[im,h7,h8]
   have b:=oP (x:=.aA .u8 (tn .u8 v 90)) h7 h8 rfl rfl rfl rfl;simp only[go_sem,h0,h2,h5,e,hP t,b];refine⟨_,?_,i+1,by simp,ci,rfl,?_,hp.aA (ik.aC h7 h8 ⟨_,_,rfl,.inr (.inl ⟨_,_,_,rfl,rfl⟩),rfl⟩)⟩;·omega
   ·exact he.aB (eY.aG (F:=F) _ (λ_=>h6)) (λ_ _ x=>x) (λ_ _ x=>x)
  ·simp only[go_sem];exact⟨he,hp⟩
theorem Kb {P:Program}{f:FuncId}(hf:Is P f zK):iU P f (.sl 1 [.aA .i64]):=by
 refine⟨hf.2,λF h a ho=>fN hf ?_⟩;have lx:=ho.aD;simp only[zK,go_sem];refine gJ (λm L h'=>∃(i:Nat),lk 0 L=a/\lk 2 L=.aA .i64 i/\i<=jk a/\m=jk a-i/\eY F h h'/\ik h h') (jk a) ?_ ?_;·exact⟨0,by simp[fi,ga],by simp[fi],by omega,by omega,eY.aC _ _,ik.aB _⟩
 ·rintro m L h' ⟨i,h0,h2,hi,rfl,he,hp⟩;simp only[Fv,go_sem,lx,h0,h2];refine gx (λci=>?_) (λci=>?_)
  ·simp at ci;obtain⟨n,off,row,g,cs,h5,h6,h7,h8,h9⟩:=(hp.1 _ _ _ ho).aC ci;simp only[gW,gn]at h9;obtain⟨_,_,rfl,⟨v,rfl⟩,rfl⟩:=h9;have hl:=ho.aE;have e:IntKind.i64.wrap (↑i+1)=(i:Int)+1:=fQ (by omega);have t:im h' (.aC n 1 (off+i) 0)=some [.aA .i64 v]:=by simp[im,h7,h8]
   have b:=oP (x:=.aA .i64 (tn .i64 v 77)) h7 h8 rfl rfl rfl rfl;simp only[go_sem,h0,h2,h5,e,hP t,b];refine⟨_,?_,i+1,by simp,ci,rfl,?_,hp.aA (ik.aC h7 h8 ⟨_,_,rfl,.inr (.inl ⟨_,_,_,rfl,rfl⟩),rfl⟩)⟩;·omega
   ·exact he.aB (eY.aG (F:=F) _ (λ_=>h6)) (λ_ _ x=>x) (λ_ _ x=>x)
  ·simp only[go_sem];exact⟨he,hp⟩
def Er (P:Program)(f:FuncId):Prop:=
 fI P f=true/\∀(F:Nat->Prop)(h:eZ)(x y:gj)(a b:List AV),fu F h x.c a->fu F h y.c b->x.aA.length<=2^40->
  fy P f [.aE a,.aE b] h λr h'=>r=.aD (decide (x=y))/\h'=h
theorem wx {P : Program} {f g : FuncId} (hf : Is P f (zx g)) (hg : m_ P g .u8) : Er P f := by
 refine ⟨hf.2, λF h x y a b hx hy hl => iF rfl (fN hf ?_)⟩;simp only [gj.c, fu, Rd] at hx hy;obtain ⟨_, _, rfl, rfl, _, _, rfl, rfl, d, _, rfl, hx, rfl⟩ := hx;obtain ⟨_, _, rfl, rfl, _, _, rfl, rfl, e, _, rfl, hy, rfl⟩ := hy;simp only [zx, go_sem, hx.aA, hy.aA];repeat' (first
  | refine ph (λ_ => ?_) (λ_ => ?_)
  | (refine fq ⟨hg.1, hg.2 F _ x.aA y.aA _ _ (hx.up (eY.b2 _ _)) (hy.up (eY.b2 _ _)) hl⟩ ?_; rintro _ _ ⟨rfl, rfl⟩)
  | simp only [go_sem, *])
 all_goals exact ⟨by simp [gj.aE, *], eY.b2 _ _⟩
def tR (P:Program)(f:FuncId):Prop:=
 fI P f=true/\∀(F:Nat->Prop)(h:eZ)(x y:List gj)(a b:AV),Rd F h (f_ x) a->Rd F h (f_ y) b->x.length<=2^40->(∀e∈x,e.aA.length<=2^40)->
  fy P f [a,b] h λr h'=>r=.aD (decide (x=y))/\h'=h
theorem wv {P:Program}{f g:FuncId}(hf:Is P f (zu g))(hg:Er P g):tR P f:=by
 refine⟨hf.2,λF h x y a b hx hy hl hd=>fN hf ?_⟩;have lx:=hx.aB;have ly:=hy.aB;simp only[Vo]at lx ly;simp only[zu,go_sem,lx,ly];refine gx (λc=>?_) (λc=>?_);·simp only[go_sem];simp at c;simp;rintro rfl;exact c rfl
 ·simp only[go_sem];simp at c;have c':x.length=y.length:=by omega
  refine gJ (λm L h'=>∃i:Nat,lk 0 L=a/\lk 1 L=b/\lk 5 L=.aA .i64 i/\h'=h/\i<=x.length/\m=x.length-i/\∀j:Nat,j<i->x[j]?=y[j]?) x.length ?_ ?_;·exact⟨0,by simp[fi,ga],by simp[fi,ga],by simp[fi],rfl,by omega,by omega,by omega⟩
  ·rintro m L h' ⟨i,h0,h1,h5,rfl,hi,rfl,hj⟩;simp only[Fk,go_sem,lx,h0,h5];refine gx (λci=>?_) (λci=>?_)
   ·simp at ci;have iy:i<y.length:=by omega
    obtain⟨p,cs,hp,C,I⟩:=hx.aD .i64 (i:=i) (d:=x[i].c) (by omega) (by simp[ci]);obtain⟨q,cs',hq,u,t⟩:=hy.aD .i64 (i:=i) (d:=y[i].c) (by omega) (by simp[iy]);have e:IntKind.i64.wrap (↑i+1)=(i:Int)+1:=fQ (by omega);have l1:=qp I;have l2:=qp t;simp only[gj.c,go_sem]at l1 l2;have t1:cs.take 3=cs:=V5 (by omega);have t2:cs'.take 3=cs':=V5 (by omega);simp only[go_sem,h0,h1,h5,hp,hq,hP C,hP u,l1,l2,t1,t2];refine fq ⟨hg.1,hg.2 F _ x[i] y[i] _ _ I t (hd _ (by simp))⟩ ?_;rintro _ _ ⟨rfl,rfl⟩;simp only[go_sem,hP C,hP u,l1,l2,t1,t2,or_true];refine gx (λce=>?_) (λce=>?_);·simp only[go_sem];simp at ce;simp;rintro rfl;exact ce rfl
    ·simp only[go_sem,h0,h1,h5,e];simp at ce;refine⟨_,?_,i+1,by simp,ci,rfl,λj hj'=>?_⟩;·omega
     ·rcases Wc j i with hlt | E;·exact hj j hlt
      ·obtain rfl:j=i:=by omega
       simp[ci,iy,ce]
   ·simp at ci;simp only[go_sem];obtain rfl:i=x.length:=by omega
    have:x=y:=by
     apply VT;intro j;rcases Wc j x.length with hlt | E;·exact hj j hlt
     ·rw[VJ E,VJ (by omega)]
    simp[this]
def wz (P:Program)(f:FuncId):Prop:=
 fI P f=true/\∀(F:Nat->Prop)(h:eZ)(x y:fE)(a b:List AV),fu F h x.c a->fu F h y.c b->x.es.length<=2^40->(∀e∈x.es,e.aA.length<=2^40)->
  fy P f [.aE a,.aE b] h λr h'=>r=.aD (decide (x=y))/\h'=h
theorem Et {P : Program} {f g : FuncId} (hf : Is P f (zB g)) (hg : tR P g) : wz P f := by
 refine ⟨hf.2, λF h x y a b hx hy hl hd => iF rfl (fN hf ?_)⟩;simp only [fE.c, fu, Rd] at hx hy;obtain ⟨_, _, rfl, rfl, _, _, rfl, rfl, d, _, rfl, hx, rfl⟩ := hx;obtain ⟨_, _, rfl, rfl, _, _, rfl, rfl, e, _, rfl, hy, rfl⟩ := hy;simp only [zB, go_sem, hx.aA, hy.aA];repeat' (first
  | refine ph (λ_ => ?_) (λ_ => ?_)
  | (refine fq ⟨hg.1, hg.2 F _ x.es y.es _ _ (hx.up (eY.b2 _ _)) (hy.up (eY.b2 _ _)) hl hd⟩ ?_; rintro _ _ ⟨rfl, rfl⟩)
  | simp only [go_sem, *])
 all_goals exact ⟨by simp [fE.aP, *], eY.b2 _ _⟩
def vg (P:Program)(f:FuncId):Prop:=
 fI P f=true/\∀(F:Nat->Prop)(h:eZ)(x:List gj)(a:AV)(items bytes:Int),Rd F h (f_ x) a->0<=items/\items<=2^40->0<=bytes/\bytes<=2^40->
  fy P f [a,.aA .i64 items,.aA .i64 bytes] h λr h'=>∃b,r=.aD b/\h'=h/\(b=false->x.length<=items.toNat/\∀e∈x,e.aA.length<=bytes.toNat)
theorem nw (k:IntKind)(a b:Int):mi false [.aA k a,.aA k b]=some (.aA k (min a b)):=by
 simp only[mi,mi.aA];by_cases h:b<a;·simp[h];omega
 ·simp[h];omega
theorem nu (k:IntKind)(a b:Int):mi true [.aA k a,.aA k b]=some (.aA k (max a b)):=by
 simp only[mi,mi.aA];by_cases h:a<b;·simp[h];omega
 ·simp[h];omega
theorem lZ (g:fJ->AV)(h:eZ)(m:Bool)(xs:List fJ):gB g h (.aJ m xs)=mi m (xs.map g):=rfl
theorem I4 {P:Program}{f:FuncId}(hf:Is P f y_):vg P f:=by
 refine⟨hf.2,λF h x a items bytes hx hit hby=>fN hf ?_⟩;have lx:=hx.aB;simp only[Vo]at lx;simp only[y_,go_sem,lx];refine gx (λc=>?_) (λc=>?_);·simp only[go_sem];exact⟨true,rfl,λe=>by cases e⟩
 ·simp only[go_sem];simp at c;refine gJ (λm L h'=>∃(i:Nat)(n:Int),lk 0 L=a/\lk 2 L=.aA .i64 bytes/\lk 7 L=.aA .i64 n/\lk 8 L=.aA .i64 i/\h'=h/\i<=x.length/\m=x.length-i/\0<=n/\n<=bytes /\
   ∀(j:Nat)(hj:j<x.length),j<i->x[j].aA.length<=bytes.toNat) x.length ?_ ?_
  ·exact⟨0,0,by simp[fi,ga],by simp[fi,ga],by simp[fi],by simp[fi],rfl,by omega,by omega,by omega,by omega,by omega⟩
  ·rintro m L h' ⟨i,n,h0,h2,h7,h8,rfl,hi,rfl,hn,hn',hj⟩;simp only[Fb,go_sem,lx,h0,h8];refine gx (λci=>?_) (λci=>?_)
   ·simp at ci;obtain⟨p,cs,hp,b,u⟩:=hx.aD .i64 (i:=i) (d:=x[i].c) (by omega) (by simp[ci]);simp only[gj.c,fu,Rd]at u;obtain⟨_,_,rfl,rfl,_,_,rfl,rfl,d,_,rfl,hd,rfl⟩:=u;have ld:=hd.aB;simp only[Vo]at ld;have e:IntKind.i64.wrap (↑i+1)=(i:Int)+1:=fQ (by omega);have e1:IntKind.i64.wrap (bytes+1)=bytes+1:=fQ (by omega);have e2:IntKind.i64.wrap (n+min (↑x[i].aA.length) (bytes+1))=n+min (↑x[i].aA.length) (bytes+1):=fQ (by omega);simp only[go_sem,h0,h2,h7,h8,hp,ko b,jJ b,ld,e1,lZ,nw,e2];refine gx (λcb=>?_) (λcb=>?_);·simp only[go_sem];exact⟨true,rfl,λe=>by cases e⟩
    ·simp only[go_sem,h0,h2,h7,h8,e];simp at cb;refine⟨_,?_,i+1,_,rfl,by simp,ci,rfl,by omega,by omega,λj C hj2=>?_⟩;·omega
     ·rcases Wc j i with hlt | hge;·exact hj j C hlt
      ·obtain rfl:j=i:=by omega
       omega
   ·simp at ci;simp only[go_sem];obtain rfl:i=x.length:=by omega
    refine⟨false,rfl,λ_=>⟨by omega,λe he=>?_⟩⟩;obtain⟨j,t,rfl⟩:=List.mem_iff_getElem.1 he;exact hj j t t
def kT:List Ty:=[.aA .i64,.aA .i64,.sl 1 [.aA .u8]]
def iK (l:List gj):Prop:=l.length<=2^30/\∀e∈l,e.aA.length<=2^40
theorem rU {l:List Int}(hl:l.length<=2^40):lu (fT l) (.sl 1 [.aA .u8]):=by simp only[fT,lu];refine⟨_,rfl,by simpa using hl,rI λd hd=>?_⟩;obtain⟨n,_,rfl⟩:=Wl.1 hd;simp[mV,lu]
theorem um {l:List gj}(hl:iK l):lu (f_ l) (.sl 3 kT):=by simp only[f_,lu];refine⟨_,rfl,by have:=hl.1;simp;omega,rI λd hd=>?_⟩;obtain⟨e,he,rfl⟩:=Wl.1 hd;simp only[gj.c,kT,mV];exact⟨_,_,rfl,rfl,_,_,rfl,rfl,_,_,rfl,rU (hl.2 e he),rfl⟩
theorem J_ {P:Program}{f g:FuncId}(hf:Is P f (zH g))(hg:iU P g (.sl 1 [.aA .u8])):iU P f (.sl 3 kT):=by
 refine⟨hf.2,λF h a ho=>fN hf ?_⟩;have lx:=ho.aD;simp only[zH,go_sem];refine gJ (λm L h'=>∃(i:Nat),lk 0 L=a/\lk 2 L=.aA .i64 i/\i<=jk a/\m=jk a-i/\eY F h h'/\ik h h') (jk a) ?_ ?_;·exact⟨0,by simp[fi,ga],by simp[fi],by omega,by omega,eY.aC _ _,ik.aB _⟩
 ·rintro m L h' ⟨i,h0,h2,hi,rfl,he,hp⟩;simp only[Ft,go_sem,lx,h0,h2];refine gx (λci=>?_) (λci=>?_)
  ·simp at ci;obtain⟨n,off,row,gr,cs,h5,h6,h7,h8,h9⟩:=(hp.1 _ _ _ ho).aC ci;simp only[kT,gW,JN]at h9;obtain⟨_,_,rfl,⟨v,rfl⟩,_,_,rfl,⟨v',rfl⟩,d,_,rfl,h9,rfl⟩:=h9;have hl:=ho.aE;have e:IntKind.i64.wrap (↑i+1)=(i:Int)+1:=fQ (by omega);have hpc:im h' (.aC n 3 (off+i) 0)=some [.aA .i64 v,.aA .i64 v',d]:=by simp[im,h7,h8]
   simp only[go_sem,h0,h2,h5,h7,h8];refine fq ⟨hg.1,hg.2 _ h' d h9⟩ ?_;rintro _ E ⟨b,C⟩;have t:E[n]?=some (some (.aA 3 row gr)):=by rw[b.2 n (U_.1 h7).1 (λx=>x.2 rfl)];exact h7
   have u:=oP (x:=.aE [.aA .i64 (-77),.aA .i64 0,.aB]) t h8 rfl rfl rfl rfl;simp only[go_sem,h0,h2,h5,e,u];refine⟨_,?_,i+1,by simp,ci,rfl,?_,(hp.aA C).aA (ik.aC t h8 ⟨_,_,rfl,.inr (.inl ⟨_,_,_,rfl,rfl⟩),_,_,rfl,.inr (.inl ⟨_,_,_,rfl,rfl⟩),_,_,rfl,mT.aA h9,rfl⟩)⟩;·omega
   ·exact (he.aB b (λ_ _ x=>x) (λ_ _ x=>x.1)).aB (eY.aG (F:=F) _ (λ_=>h6)) (λ_ _ x=>x) (λ_ _ x=>x)
  ·simp only[go_sem];exact⟨he,hp⟩
def mC (P:Program)(f:FuncId):Prop:=
 fI P f=true/\∀(F:Nat->Prop)(h:eZ)(x:List gj)(a:AV),Rd F h (f_ x) a->iK x->
  fy P f [a] h λr h'=>e_ (f_ x) (λm=>h.length<=m) h' r/\gq h' r/\eY fj h h'
theorem yb {P:Program}{f g:FuncId}(hf:Is P f (zi g))(hg:lj P g .u8):mC P f:=by
 refine⟨hf.2,λF h x a hx hl=>fN hf ?_⟩;have lx:=hx.aB;simp only[Vo]at lx;have hl1:=hl.1;simp only[zi,go_sem];refine gJ (λm L h'=>∃(i:Nat)(o:AV),lk 0 L=a/\lk 3 L=o/\lk 4 L=.aA .i64 i/\i<=x.length/\m=x.length-i /\
  e_ (f_ (x.take i)) (λm=>h.length<=m) h' o/\gq h' o/\eY fj h h') x.length ?_ ?_
 ·exact⟨0,_,by simp[fi,ga],by simp[fi],by simp[fi],by omega,by omega,e_.aC 3,Vp,eY.aC _ _⟩
 ·rintro m L h' ⟨i,o,h0,h3,h4,hi,rfl,ho,hc,he⟩;simp only[Fe,go_sem,lx,h0,h4];refine gx (λci=>?_) (λci=>?_)
  ·simp at ci;obtain⟨p,cs,hp,C,I⟩:=(hx.up he).aD .i64 (i:=i) (d:=x[i].c) (by omega) (by simp[ci]);simp only[gj.c,fu,Rd]at I;obtain⟨_,_,rfl,rfl,_,_,rfl,rfl,d,_,rfl,hd,rfl⟩:=I;have e:IntKind.i64.wrap (↑i+1)=(i:Int)+1:=fQ (by omega);have t:=mv C (eY.b1 none);simp only[go_sem,h0,h3,h4,hp,ko C,jJ t,CQ C];refine fq ⟨hg.1,hg.2 F _ x[i].aA d (hd.up (eY.b1 none)) (hl.2 _ (by simp))⟩ ?_;rintro r h2 ⟨hr,_,u⟩;have E:=mv t u;have b:=u.aA (wM h' none);have hlt:=(U_.1 b).1;have hs:(h2.set h'.length (some (.aA 3 [[.aA .i64 x[i].aB,.aA .i64 x[i].aC,r]] false)))[h'.length]?=some (some (.aA 3 [[.aA .i64 x[i].aB,.aA .i64 x[i].aC,r]] false)):=Vd hlt;have hpc3:=mv C (((eY.b1 none).tr u).aD (Vg _) (some (.aA 3 [[.aA .i64 x[i].aB,.aA .i64 x[i].aC,r]] false)));obtain⟨o',a0,ha,M,U,O⟩:=jr (bytes:=40) (es:=[x[i].c]) (h:=h2.set h'.length (some (.aA 3 [[.aA .i64 x[i].aB,.aA .i64 x[i].aC,r]] false))) ho hc
    (((eY.b1 none).tr u).aD (Vg _) _) (ys:=[[.aA .i64 x[i].aB,.aA .i64 x[i].aC,r]])
    (by
     simp only[fP,fW,gj.c,e_];refine⟨_,_,rfl,⟨_,_,rfl,rfl,_,_,rfl,rfl,r,_,rfl,?_,rfl⟩,rfl⟩;refine e_.aB _ (λm hm=>?_) (λm hm y hy=>?_) _ hr;·simp at hm;omega
     ·rw[Vb (by simp at hm;omega)];exact hy) he.1 (by simp;omega)
   have W:mF (h2.set h'.length (some (.aA 3 [[.aA .i64 x[i].aB,.aA .i64 x[i].aC,r]] false))) 3 40 o (.aF h'.length 3 0 1 (some 1))=some (o',a0):=by rw[ic (pB hs (some 1) (len:=1) rfl)];exact ha
   simp only[go_sem,h0,h3,h4,e,jJ E,hr.aA,gH hr.aA,b,W];refine⟨_,?_,i+1,o',rfl,by simp,ci,rfl,?_,U,?_⟩;·omega
   ·have:x.take (i+1)=x.take i++[x[i]]:=by simp[ci]
    rw[this,f_,VI];exact M
   ·exact (he.tr (((eY.b1 none).tr u).aD (Vg _) _)).aB O (λ_ _ x=>x) (λm hm hm'=>by omega)
  ·simp at ci;simp only[go_sem,h3];obtain rfl:i=x.length:=by omega
   rw[VH]at ho;exact⟨ho,hc,he⟩
def qb (P:Program)(f:FuncId):Prop:=
 fI P f=true/\∀(F:Nat->Prop)(h:eZ)(x:fE)(a:List AV),fu F h x.c a->iK x.es->
  fy P f [.aE a] h λr h'=>∃cs,r=.aE cs/\fW x.c (λm=>h.length<=m) h' cs/\eY fj h h'
theorem yd {P:Program}{f g:FuncId}(hf:Is P f (uf g))(hg:mC P g):qb P f:=by
 refine⟨hf.2,λF h x a hx hl=>fN hf ?_⟩;simp only[fE.c,fu,Rd]at hx;obtain⟨_,_,rfl,rfl,_,_,rfl,rfl,d,_,rfl,hx,rfl⟩:=hx;simp only[uf,go_sem,hx.aA];refine fq ⟨hg.1,hg.2 F _ x.es d (hx.up (eY.b2 _ _)) hl⟩ ?_;rintro r h2 ⟨hr,_,he⟩;have hA:=he.aA (iE _ _ _);have hB:=he.aA (iq _ _ _);have l1:=(U_.1 hA).1;have l2:=(U_.1 hB).1;simp only[go_sem,hA,hB,hr.aA,gH hr.aA,l1,l2,Vh];refine⟨_,rfl,?_,?_⟩
 ·simp only[fE.c,fW,e_];refine⟨_,_,rfl,rfl,_,_,rfl,rfl,r,_,rfl,?_,rfl⟩;refine e_.aB _ (λm hm=>?_) (λm hm y hy=>?_) _ hr;·simp at hm;omega
  ·simp at hm;rw[Vb (by omega),Vb (by omega)];exact hy
 ·exact (((eY.b2 _ _).tr he).aD (Vg _) _).aD (by omega) _
structure fB where
 aD:Int
 aC:Int
 to:Int
 aJ:Int
 aF:Int
 aA:Int
 aI:Int
 aK:Int
 aM:Int
 aQ:Int
 aO:Int
 aN:Int
 aR:Int
 aP:Int
 ok:Bool
 es:List gj
 aE:List Int
 deriving DecidableEq
def fB.c (m:fB):List D:=[.aA .i64 m.aD,.aA .i64 m.aC,.aA .i64 m.to,.aA .i64 m.aJ,.aA .i64 m.aF,.aA .i64 m.aA,.aA .i64 m.aI,.aA .i64 m.aK,.aA .i64 m.aM,.aA .i64 m.aQ,.aA .i64 m.aO,.aA .i64 m.aN,
 .aA .i64 m.aR,.aA .i64 m.aP,.aD m.ok,f_ m.es,fT m.aE]
def fB.aB (m:fB)(e d:AV):List AV:=[.aA .i64 m.aD,.aA .i64 m.aC,.aA .i64 m.to,.aA .i64 m.aJ,.aA .i64 m.aF,.aA .i64 m.aA,.aA .i64 m.aI,.aA .i64 m.aK,.aA .i64 m.aM,.aA .i64 m.aQ,.aA .i64 m.aO,.aA .i64 m.aN,
 .aA .i64 m.aR,.aA .i64 m.aP,.aD m.ok,e,d]
theorem sQ {F h k n ds a}:fu F h (.aA k n :: ds) a↔∃r,a=.aA k n :: r/\fu F h ds r:=by
 simp only[fu,Rd];constructor;·rintro⟨x,r,h1,h2,h3⟩;subst h2;exact⟨r,h1,h3⟩
 ·rintro⟨r,h1,h3⟩;exact⟨_,r,h1,rfl,h3⟩
theorem H_ {F h n ds a}:fu F h (.aD n :: ds) a↔∃r,a=.aD n :: r/\fu F h ds r:=by
 simp only[fu,Rd];constructor;·rintro⟨x,r,h1,h2,h3⟩;subst h2;exact⟨r,h1,h3⟩
 ·rintro⟨r,h1,h3⟩;exact⟨_,r,h1,rfl,h3⟩
theorem sU {m:fB}{F:Nat->Prop}{h:eZ}{a:List AV}(hh:fu F h m.c a):∃e d,a=m.aB e d/\Rd F h (f_ m.es) e/\Rd F h (fT m.aE) d:=by simp only[fB.c,sQ,H_]at hh;obtain⟨_,rfl,_,rfl,_,rfl,_,rfl,_,rfl,_,rfl,_,rfl,_,rfl,_,rfl,_,rfl,_,rfl,_,rfl,_,rfl,_,rfl,_,rfl,hh⟩:=hh;simp only[fu]at hh;obtain⟨e,_,rfl,he,d,_,rfl,hd,rfl⟩:=hh;exact⟨e,d,rfl,he,hd⟩
theorem qT {m:fB}{F:Nat->Prop}{h:eZ}{e d:AV}(he:Rd F h (f_ m.es) e)(hd:Rd F h (fT m.aE) d):fu F h m.c (m.aB e d):=by simp only[fB.c,fB.aB,sQ,H_];refine⟨_,rfl,_,rfl,_,rfl,_,rfl,_,rfl,_,rfl,_,rfl,_,rfl,_,rfl,_,rfl,_,rfl,_,rfl,_,rfl,_,rfl,_,rfl,?_⟩;simp only[fu];exact⟨e,_,rfl,he,d,_,rfl,hd,rfl⟩
def DI (P:Program)(f:FuncId):Prop:=
 fI P f=true/\∀(F:Nat->Prop)(h:eZ)(m:fB)(a:List AV)(items bytes:Int),fu F h m.c a->0<=items/\items<=2^40->0<=bytes/\bytes<=2^40->
  fy P f [.aE a,.aA .i64 items,.aA .i64 bytes] h λr h'=>∃b,r=.aD b/\h'=h/\(b=false->(m.es.length<=items.toNat/\∀e∈m.es,e.aA.length<=bytes.toNat)/\m.aE.length<=bytes.toNat)
theorem I6 {P:Program}{f g:FuncId}(hf:Is P f (zc g))(hg:vg P g):DI P f:=by
 refine⟨hf.2,λF h m a items bytes hm hi hb=>(fy.aC (K:=λr h'=>eY fj h h'/\∃b,r=.aD b/\(b=false->(m.es.length<=items.toNat/\∀e∈m.es,e.aA.length<=bytes.toNat)/\m.aE.length<=bytes.toNat))
  (K':=λr=>∃b,r=.aD b/\(b=false->(m.es.length<=items.toNat/\∀e∈m.es,e.aA.length<=bytes.toNat)/\m.aE.length<=bytes.toNat)) (fN hf ?_)
  (λr h' hk=>⟨hk.1,by obtain⟨b,rfl,_⟩:=hk.2;exact kD _ _,hk.2⟩)).aA λr h' hk=>let⟨b,h1,h2⟩:=hk.2;⟨b,h1,hk.1,h2⟩⟩
 obtain⟨e,d,rfl,he,hd⟩:=sU hm;have ld:=hd.aB;simp only[Vo]at ld;simp only[zc,fB.aB,go_sem,he.aA,hd.aA];refine fq ⟨hg.1,hg.2 F _ m.es _ items bytes (he.up (eY.b1 _)) hi hb⟩ ?_;rintro _ _ ⟨b,rfl,rfl,t⟩;cases b;·simp only[go_sem,ld];refine⟨eY.b1 _,_,rfl,λe=>⟨t rfl,?_⟩⟩;simp at e;omega
 ·simp only[go_sem];exact⟨eY.b1 _,_,rfl,λe=>by cases e⟩
def rk (P:Program)(f:FuncId):Prop:=
 fI P f=true/\∀(F:Nat->Prop)(h:eZ)(m:fB)(a:List AV),fu F h m.c a->iK m.es->m.aE.length<=2^40->
  fy P f [.aE a] h λr h'=>∃e d,r=.aE (m.aB e d)/\e_ (f_ m.es) (λk=>h.length<=k) h' e/\e_ (fT m.aE) (λk=>h.length<=k) h' d/\eY fj h h'
theorem Jo {P:Program}{f g k:FuncId}(hf:Is P f (zk g k))(hg:mC P g)(hk:lj P k .u8):rk P f:=by
 refine⟨hf.2,λF h m a hm hs hl=>fN hf ?_⟩;obtain⟨e,d,rfl,he,hd⟩:=sU hm;simp only[zk,fB.aB,go_sem,he.aA,hd.aA];refine fq ⟨hg.1,hg.2 F _ m.es _ (he.up (eY.b2 _ _)) hs⟩ ?_;rintro r h2 ⟨hr,_,x2⟩;have hA:=x2.aA (iE _ _ _);have hB:=x2.aA (iq _ _ _);have l1:=(U_.1 hA).1;have l2:=(U_.1 hB).1;simp only[go_sem,hA,hr.aA,gH hr.aA,l1];have x3:=((eY.b2 _ _).tr x2).aD (Vg h.length) (some (.aA 17 [m.aB r d] false));have u:e_ (f_ m.es) (λk=>h.length+2<=k) (h2.set h.length (some (.aA 17 [m.aB r d] false))) r:=
  e_.aB _ (λm hm=>by simp at hm;omega) (λm hm y hy=>by simp at hm;rw[Vb (by omega)];exact hy) _ hr
 have I:(h2.set h.length (some (.aA 17 [m.aB r d] false)))[h.length]?=_:=Vd l1;have t:(h2.set h.length (some (.aA 17 [m.aB r d] false)))[h.length+1]?=_:=(Vb (by omega)).trans hB;simp only[fB.aB]at x3 u I t;generalize h2.set h.length (some (.aA 17 [[.aA .i64 m.aD,.aA .i64 m.aC,.aA .i64 m.to,.aA .i64 m.aJ,.aA .i64 m.aF,.aA .i64 m.aA,.aA .i64 m.aI,.aA .i64 m.aK,.aA .i64 m.aM,.aA .i64 m.aQ,.aA .i64 m.aO,.aA .i64 m.aN,
  .aA .i64 m.aR,.aA .i64 m.aP,.aD m.ok,r,d]] false))=h3 at *
 refine fq ⟨hk.1,hk.2 F _ m.aE _ (hd.up x3) hl⟩ ?_;rintro s h4 ⟨b,_,x4⟩;have E:=x4.aA I;have C:=x4.aA t;have l3:=(U_.1 E).1;have l4:=(U_.1 C).1;have M:=u.up x4;have l0:=x3.1;have l5:=(U_.1 t).1;simp only[go_sem,E,C,hr.aA,b.aA,gH b.aA,l3,l4,Vh];refine⟨r,s,rfl,?_,?_,((x3.tr x4).aD (Vg _) _).aD (by omega) _⟩;·exact e_.aB _ (λm hm=>by omega) (λm hm y hy=>by rw[Vb (by omega),Vb (by omega)];exact hy) _ M
 ·exact e_.aB _ (λm hm=>by omega) (λm hm y hy=>by rw[Vb (by omega),Vb (by omega)];exact hy) _ b
end Glb
