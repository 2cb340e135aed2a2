/-
  A library of its own.
-/
import Derived.Test.YtdeiamnhnfmilaaGreatGlbLibD
import Derived.Test.YtdeiamnhnfmilaaGreatGlbCod
set_option linter.unusedSimpArgs false
set_option linter.unusedVariables false
set_option maxRecDepth 10000
set_option maxHeartbeats 4000000
open Nat (reduceAdd reduceEqDiff)
namespace Glb
open Go
def gq (l:List Int):D:=.sl 1 (l.map λn=>[.aA .u8 n])
def fN (l:List Int):D:=.sl 1 (l.map λn=>[.aA .i64 n])
structure fU where
 aA:Int
 aD:Int
 aC:List Int
 deriving DecidableEq
theorem fU.aH (x y:fU):decide (x=y)=(decide (x.aA=y.aA) && (decide (x.aD=y.aD) && decide (x.aC=y.aC))):=by cases x;cases y;simp[Bool.decide_and]
def fU.c (e:fU):List D:=[.aA .i64 e.aA,.aA .i64 e.aD,gq e.aC]
def gK (l:List fU):D:=.sl 3 (l.map fU.c)
structure fA where
 aA:Int
 aD:Int
 es:List fU
 deriving DecidableEq
theorem fA.aP (x y:fA):decide (x=y)=(decide (x.aA=y.aA) && (decide (x.aD=y.aD) && decide (x.es=y.es))):=by cases x;cases y;simp[Bool.decide_and]
def fA.c (l:fA):List D:=[.aA .i64 l.aA,.aA .i64 l.aD,gK l.es]
theorem jG {P:Program}{f:FuncId}{e:List AV}{h:eX}{b:AV}(hb:b.aJ h.length=true)(hc:fC P f e h λr h'=>r=b/\eW eZ h h'):fC P f e h λr h'=>r=b/\h'=h:=
 (fC.aG (K':=λr=>r=b) hc λr h' hk=>⟨hk.2,by rw[hk.1];exact hb,hk.1⟩).aA λ_ _ hk=>⟨hk.2,hk.1⟩
theorem x_ (n:Nat)(k:IntKind)(x:Int):(AV.aA k x).aJ n=true:=by simp only[AV.aJ]
theorem qE (n:Nat)(b:Bool):(AV.aE b).aJ n=true:=by simp only[AV.aJ]
theorem IJ {n:Nat}{x y:AV}(h:x.aJ n=true)(h':y.aJ n=true):(AV.aI [x,y]).aJ n=true:=by simp only[AV.aJ,AV.aP,h,h',Bool.and_self]
def pW (P:Program)(f:FuncId)(k:IntKind):Prop:=
 fK P f=true/\∀(F:Nat->Prop)(h:eX)(x y:List Int)(a b:AV),Rd F h (.sl 1 (x.map λn=>[.aA k n])) a->Rd F h (.sl 1 (y.map λn=>[.aA k n])) b->x.length<=2^40->
  fC P f [a,b] h λr h'=>r=.aE (decide (x=y))/\h'=h
theorem Ik {P:Program}{f:FuncId}(k:IntKind)(hf:Is P f wW):pW P f k:=by
 refine⟨hf.2,λF h x y a b hx hy hl=>fS hf ?_⟩;have lx:=hx.aC;have ly:=hy.aC;simp only[Vg]at lx ly;simp only[wW,go_sem,lx,ly];refine ij (λc=>?_) (λc=>?_);·simp only[go_sem];simp at c;simp;rintro rfl;exact c rfl
 ·simp only[go_sem];simp at c;have c':x.length=y.length:=by omega
  refine iM (λm L h'=>∃i:Nat,lk 0 L=a/\lk 1 L=b/\lk 5 L=.aA .i64 i/\h'=h/\i<=x.length/\m=x.length-i/\∀j:Nat,j<i->x[j]?=y[j]?) x.length ?_ ?_;·exact⟨0,by simp[fm,g_],by simp[fm,g_],by simp[fm],rfl,by omega,by omega,by omega⟩
  ·rintro m L h' ⟨i,h0,h1,h5,rfl,hi,rfl,hj⟩;simp only[Fc,go_sem,lx,h0,h5];refine ij (λci=>?_) (λci=>?_)
   ·simp at ci;have iy:i<y.length:=by omega
    obtain⟨p,cs,hp,M,E⟩:=hx.aD .i64 (i:=i) (d:=[.aA k x[i]]) (by omega) (by simp[ci]);obtain⟨q,cs',hq,I,u⟩:=hy.aD .i64 (i:=i) (d:=[.aA k y[i]]) (by omega) (by simp[iy]);simp only[fu,Rd]at E u;obtain⟨_,_,rfl,rfl,rfl⟩:=E;obtain⟨_,_,rfl,rfl,rfl⟩:=u;have e:IntKind.i64.wrap (↑i+1)=(i:Int)+1:=gj (by omega);simp only[go_sem,h0,h1,h5,hp,hq,jr M,jr I];refine ij (λce=>?_) (λce=>?_);·simp only[go_sem];simp at ce;simp;rintro rfl;exact ce rfl
    ·simp only[go_sem,h0,h1,h5,e];simp at ce;refine⟨_,?_,i+1,by simp,ci,rfl,λj hj'=>?_⟩;·omega
     ·rcases WB j i with hlt | C;·exact hj j hlt
      ·obtain rfl:j=i:=by omega
       simp[ci,iy,ce]
   ·simp at ci;simp only[go_sem];obtain rfl:i=x.length:=by omega
    have:x=y:=by
     apply VM;intro j;rcases WB j x.length with hlt | C;·exact hj j hlt
     ·rw[VH C,VH (by omega)]
    simp[this]
theorem JD {P:Program}{f:FuncId}(hf:Is P f wW):pW P f .u8:=Ik .u8 hf
theorem JH {P:Program}{f:FuncId}(hf:Is P f Ff):pW P f .i64:=Ik .i64 hf
def ot (P:Program)(f:FuncId)(k:IntKind):Prop:=
 fK P f=true/\∀(F:Nat->Prop)(h:eX)(x:List Int)(a:AV),Rd F h (.sl 1 (x.map λn=>[.aA k n])) a->x.length<=2^40->
  fC P f [a] h λr h'=>eY (.sl 1 (x.map λn=>[.aA k n])) (λm=>h.length<=m) h' r/\gV h' r/\eW eZ h h'
theorem Jb {P:Program}{f:FuncId}(hf:Is P f zR):ot P f .u8:=by
 refine⟨hf.2,λF h x a hx hl=>fS hf ?_⟩;have lx:=hx.aC;simp only[Vg]at lx;simp only[zR,go_sem];refine iM (λm L h'=>∃(i:Nat)(o:AV),lk 0 L=a/\lk 3 L=o/\lk 4 L=.aA .i64 i/\i<=x.length/\m=x.length-i /\
  eY (.sl 1 ((x.take i).map λn=>[.aA .u8 n])) (λm=>h.length<=m) h' o/\gV h' o/\eW eZ h h') x.length ?_ ?_
 ·exact⟨0,_,by simp[fm,g_],by simp[fm],by simp[fm],by omega,by omega,eY.aD 1,Vd,eW.aC _ _⟩
 ·rintro m L h' ⟨i,o,h0,h3,h4,hi,rfl,ho,hc,he⟩;simp only[E_,go_sem,lx,h0,h4];refine ij (λci=>?_) (λci=>?_)
  ·simp at ci;obtain⟨p,cs,hp,C,u⟩:=(Rd.aE (λ_ x=>x) (he.aE F) _ _ hx).aD .i64 (i:=i) (d:=[.aA .u8 x[i]]) (by omega) (by simp[ci]);simp only[fu,Rd]at u;obtain⟨_,_,rfl,rfl,rfl⟩:=u;have e:IntKind.i64.wrap (↑i+1)=(i:Int)+1:=gj (by omega);obtain⟨o',h2,ha,E,M,I⟩:=l_ (bytes:=1) (es:=[[.aA .u8 x[i]]]) (h:=h'++[some (.aA 1 [[.aA .u8 x[i]]] false)]) ho hc (eW.aF _ _ _) (ys:=[[.aA .u8 x[i]]])
    (by simp[fG,fI,eY]) he.1 (by simp;omega)
   simp only[go_sem,reduceEqDiff,reduceAdd,h0,h3,h4,e,hp,jr C,iv (lG h' 1 [[.aA .u8 x[i]]] false (some 1) (len:=1) rfl),ha];refine⟨_,?_,i+1,o',rfl,by simp,ci,rfl,?_,M,?_⟩;·omega
   ·have:x.take (i+1)=x.take i++[x[i]]:=by simp[ci]
    rw[this,VJ];exact E
   ·exact (he.aD (eW.aF eZ h' _) (λ_ _ x=>x) (λ_ _ x=>x)).aD I (λ_ _ x=>x) (λm hm hm'=>by omega)
  ·simp at ci;simp only[go_sem,h3];obtain rfl:i=x.length:=by omega
   rw[VB]at ho;exact⟨ho,hc,he⟩
theorem Je {P:Program}{f:FuncId}(hf:Is P f zV):ot P f .i64:=by
 refine⟨hf.2,λF h x a hx hl=>fS hf ?_⟩;have lx:=hx.aC;simp only[Vg]at lx;simp only[zV,go_sem];refine iM (λm L h'=>∃(i:Nat)(o:AV),lk 0 L=a/\lk 3 L=o/\lk 4 L=.aA .i64 i/\i<=x.length/\m=x.length-i /\
  eY (.sl 1 ((x.take i).map λn=>[.aA .i64 n])) (λm=>h.length<=m) h' o/\gV h' o/\eW eZ h h') x.length ?_ ?_
 ·exact⟨0,_,by simp[fm,g_],by simp[fm],by simp[fm],by omega,by omega,eY.aD 1,Vd,eW.aC _ _⟩
 ·rintro m L h' ⟨i,o,h0,h3,h4,hi,rfl,ho,hc,he⟩;simp only[Fb,go_sem,lx,h0,h4];refine ij (λci=>?_) (λci=>?_)
  ·simp at ci;obtain⟨p,cs,hp,C,u⟩:=(Rd.aE (λ_ x=>x) (he.aE F) _ _ hx).aD .i64 (i:=i) (d:=[.aA .i64 x[i]]) (by omega) (by simp[ci]);simp only[fu,Rd]at u;obtain⟨_,_,rfl,rfl,rfl⟩:=u;have e:IntKind.i64.wrap (↑i+1)=(i:Int)+1:=gj (by omega);obtain⟨o',h2,ha,E,M,I⟩:=l_ (bytes:=8) (es:=[[.aA .i64 x[i]]]) (h:=h'++[some (.aA 1 [[.aA .i64 x[i]]] false)]) ho hc (eW.aF _ _ _) (ys:=[[.aA .i64 x[i]]])
    (by simp[fG,fI,eY]) he.1 (by simp;omega)
   simp only[go_sem,reduceEqDiff,reduceAdd,h0,h3,h4,e,hp,jr C,iv (lG h' 1 [[.aA .i64 x[i]]] false (some 1) (len:=1) rfl),ha];refine⟨_,?_,i+1,o',rfl,by simp,ci,rfl,?_,M,?_⟩;·omega
   ·have:x.take (i+1)=x.take i++[x[i]]:=by simp[ci]
    rw[this,VJ];exact E
   ·exact (he.aD (eW.aF eZ h' _) (λ_ _ x=>x) (λ_ _ x=>x)).aD I (λ_ _ x=>x) (λm hm hm'=>by omega)
  ·simp at ci;simp only[go_sem,h3];obtain rfl:i=x.length:=by omega
   rw[VB]at ho;exact⟨ho,hc,he⟩
def sI (P:Program)(f:FuncId):Prop:=
 fK P f=true/\∀(F:Nat->Prop)(h:eX)(x y:fU)(a b:List AV),fu F h x.c a->fu F h y.c b->x.aC.length<=2^40->
  fC P f [.aF a,.aF b] h λr h'=>r=.aE (decide (x=y))/\h'=h
theorem ze {P : Program} {f g : FuncId} (hf : Is P f (z8 g)) (hg : pW P g .u8) : sI P f := by
 refine ⟨hf.2, λF h x y a b hx hy hl => jG rfl (fS hf ?_)⟩;simp only [fU.c, fu, Rd] at hx hy;obtain ⟨_, _, rfl, rfl, _, _, rfl, rfl, d, _, rfl, hx, rfl⟩ := hx;obtain ⟨_, _, rfl, rfl, _, _, rfl, rfl, e, _, rfl, hy, rfl⟩ := hy;simp only [z8, go_sem, hx.aA, hy.aA];repeat' (first
  | refine t_ (λ_ => ?_) (λ_ => ?_)
  | (refine fy ⟨hg.1, hg.2 F _ x.aC y.aC _ _ (hx.up (eW.b2 _ _)) (hy.up (eW.b2 _ _)) hl⟩ ?_; rintro _ _ ⟨rfl, rfl⟩)
  | simp only [go_sem, *])
 all_goals exact ⟨by simp [fU.aH, *], eW.b2 _ _⟩
def Ew (P:Program)(f:FuncId):Prop:=
 fK P f=true/\∀(F:Nat->Prop)(h:eX)(x y:List fU)(a b:AV),Rd F h (gK x) a->Rd F h (gK y) b->x.length<=2^40->(∀e∈x,e.aC.length<=2^40)->
  fC P f [a,b] h λr h'=>r=.aE (decide (x=y))/\h'=h
theorem JF {P:Program}{f g:FuncId}(hf:Is P f (z7 g))(hg:sI P g):Ew P f:=by
 refine⟨hf.2,λF h x y a b hx hy hl hd=>fS hf ?_⟩;have lx:=hx.aC;have ly:=hy.aC;simp only[Vg]at lx ly;simp only[z7,go_sem,lx,ly];refine ij (λc=>?_) (λc=>?_);·simp only[go_sem];simp at c;simp;rintro rfl;exact c rfl
 ·simp only[go_sem];simp at c;have c':x.length=y.length:=by omega
  refine iM (λm L h'=>∃i:Nat,lk 0 L=a/\lk 1 L=b/\lk 5 L=.aA .i64 i/\h'=h/\i<=x.length/\m=x.length-i/\∀j:Nat,j<i->x[j]?=y[j]?) x.length ?_ ?_;·exact⟨0,by simp[fm,g_],by simp[fm,g_],by simp[fm],rfl,by omega,by omega,by omega⟩
  ·rintro m L h' ⟨i,h0,h1,h5,rfl,hi,rfl,hj⟩;simp only[Fe,go_sem,lx,h0,h5];refine ij (λci=>?_) (λci=>?_)
   ·simp at ci;have iy:i<y.length:=by omega
    obtain⟨p,cs,hp,E,M⟩:=hx.aD .i64 (i:=i) (d:=x[i].c) (by omega) (by simp[ci]);obtain⟨q,cs',hq,C,u⟩:=hy.aD .i64 (i:=i) (d:=y[i].c) (by omega) (by simp[iy]);have e:IntKind.i64.wrap (↑i+1)=(i:Int)+1:=gj (by omega);have l1:=uC M;have l2:=uC u;simp only[fU.c,go_sem]at l1 l2;have t1:cs.take 3=cs:=Vs (by omega);have t2:cs'.take 3=cs':=Vs (by omega);simp only[go_sem,h0,h1,h5,hp,hq,jr E,jr C,l1,l2,t1,t2];refine fy ⟨hg.1,hg.2 F _ x[i] y[i] _ _ M u (hd _ (by simp))⟩ ?_;rintro _ _ ⟨rfl,rfl⟩;simp only[go_sem,jr E,jr C,l1,l2,t1,t2,or_true];refine ij (λce=>?_) (λce=>?_);·simp only[go_sem];simp at ce;simp;rintro rfl;exact ce rfl
    ·simp only[go_sem,h0,h1,h5,e];simp at ce;refine⟨_,?_,i+1,by simp,ci,rfl,λj hj'=>?_⟩;·omega
     ·rcases WB j i with hlt | I;·exact hj j hlt
      ·obtain rfl:j=i:=by omega
       simp[ci,iy,ce]
   ·simp at ci;simp only[go_sem];obtain rfl:i=x.length:=by omega
    have:x=y:=by
     apply VM;intro j;rcases WB j x.length with hlt | I;·exact hj j hlt
     ·rw[VH I,VH (by omega)]
    simp[this]
def Ex (P:Program)(f:FuncId):Prop:=
 fK P f=true/\∀(F:Nat->Prop)(h:eX)(x y:fA)(a b:List AV),fu F h x.c a->fu F h y.c b->x.es.length<=2^40->(∀e∈x.es,e.aC.length<=2^40)->
  fC P f [.aF a,.aF b] h λr h'=>r=.aE (decide (x=y))/\h'=h
theorem JI {P : Program} {f g : FuncId} (hf : Is P f (Aa g)) (hg : Ew P g) : Ex P f := by
 refine ⟨hf.2, λF h x y a b hx hy hl hd => jG rfl (fS hf ?_)⟩;simp only [fA.c, fu, Rd] at hx hy;obtain ⟨_, _, rfl, rfl, _, _, rfl, rfl, d, _, rfl, hx, rfl⟩ := hx;obtain ⟨_, _, rfl, rfl, _, _, rfl, rfl, e, _, rfl, hy, rfl⟩ := hy;simp only [Aa, go_sem, hx.aA, hy.aA];repeat' (first
  | refine t_ (λ_ => ?_) (λ_ => ?_)
  | (refine fy ⟨hg.1, hg.2 F _ x.es y.es _ _ (hx.up (eW.b2 _ _)) (hy.up (eW.b2 _ _)) hl hd⟩ ?_; rintro _ _ ⟨rfl, rfl⟩)
  | simp only [go_sem, *])
 all_goals exact ⟨by simp [fA.aP, *], eW.b2 _ _⟩
theorem tL (k:IntKind)(a b:Int):mO false [.aA k a,.aA k b]=some (.aA k (min a b)):=by
 simp only[mO,mO.aA];by_cases h:b<a;·simp[h];omega
 ·simp[h];omega
theorem vp (k:IntKind)(a b:Int):mO true [.aA k a,.aA k b]=some (.aA k (max a b)):=by
 simp only[mO,mO.aA];by_cases h:a<b;·simp[h];omega
 ·simp[h];omega
theorem rT (g:fE->AV)(h:eX)(m:Bool)(xs:List fE):gG g h (.aE m xs)=mO m (xs.map g):=rfl
def lU (l:List fU):Prop:=l.length<=2^30/\∀e∈l,e.aC.length<=2^40
def qH (P:Program)(f:FuncId):Prop:=
 fK P f=true/\∀(F:Nat->Prop)(h:eX)(x:List fU)(a:AV),Rd F h (gK x) a->lU x->
  fC P f [a] h λr h'=>eY (gK x) (λm=>h.length<=m) h' r/\gV h' r/\eW eZ h h'
theorem DQ {P:Program}{f g:FuncId}(hf:Is P f (zT g))(hg:ot P g .u8):qH P f:=by
 refine⟨hf.2,λF h x a hx hl=>fS hf ?_⟩;have lx:=hx.aC;simp only[Vg]at lx;have hl1:=hl.1;simp only[zT,go_sem];refine iM (λm L h'=>∃(i:Nat)(o:AV),lk 0 L=a/\lk 3 L=o/\lk 4 L=.aA .i64 i/\i<=x.length/\m=x.length-i /\
  eY (gK (x.take i)) (λm=>h.length<=m) h' o/\gV h' o/\eW eZ h h') x.length ?_ ?_
 ·exact⟨0,_,by simp[fm,g_],by simp[fm],by simp[fm],by omega,by omega,eY.aD 3,Vd,eW.aC _ _⟩
 ·rintro m L h' ⟨i,o,h0,h3,h4,hi,rfl,ho,hc,he⟩;simp only[Fa,go_sem,lx,h0,h4];refine ij (λci=>?_) (λci=>?_)
  ·simp at ci;obtain⟨p,cs,hp,I,O⟩:=(hx.up he).aD .i64 (i:=i) (d:=x[i].c) (by omega) (by simp[ci]);simp only[fU.c,fu,Rd]at O;obtain⟨_,_,rfl,rfl,_,_,rfl,rfl,d,_,rfl,hd,rfl⟩:=O;have e:IntKind.i64.wrap (↑i+1)=(i:Int)+1:=gj (by omega);have C:=rQ I (eW.b1 none);simp only[go_sem,h0,h3,h4,hp,mN I,nh C,Hi I];refine fy ⟨hg.1,hg.2 F _ x[i].aC d (hd.up (eW.b1 none)) (hl.2 _ (by simp))⟩ ?_;rintro r h2 ⟨hr,_,E⟩;have M:=rQ C E;have u:=E.aA (KX h' none);have hlt:=(UY.1 u).1;have hs:(h2.set h'.length (some (.aA 3 [[.aA .i64 x[i].aA,.aA .i64 x[i].aD,r]] false)))[h'.length]?=some (some (.aA 3 [[.aA .i64 x[i].aA,.aA .i64 x[i].aD,r]] false)):=U5 hlt;have hpc3:=rQ I (((eW.b1 none).tr E).aG (U8 _) (some (.aA 3 [[.aA .i64 x[i].aA,.aA .i64 x[i].aD,r]] false)));obtain⟨o',a2,ha,U,Z,W⟩:=l_ (bytes:=40) (es:=[x[i].c]) (h:=h2.set h'.length (some (.aA 3 [[.aA .i64 x[i].aA,.aA .i64 x[i].aD,r]] false))) ho hc
    (((eW.b1 none).tr E).aG (U8 _) _) (ys:=[[.aA .i64 x[i].aA,.aA .i64 x[i].aD,r]])
    (by
     simp only[fG,fI,fU.c,eY];refine⟨_,_,rfl,⟨_,_,rfl,rfl,_,_,rfl,rfl,r,_,rfl,?_,rfl⟩,rfl⟩;refine eY.aC _ (λm hm=>?_) (λm hm y hy=>?_) _ hr;·simp at hm;omega
     ·rw[UZ (by simp at hm;omega)];exact hy) he.1 (by simp;omega)
   have a1:nR (h2.set h'.length (some (.aA 3 [[.aA .i64 x[i].aA,.aA .i64 x[i].aD,r]] false))) 3 40 o (.aG h'.length 3 0 1 (some 1))=some (o',a2):=by rw[iv (qX hs (some 1) (len:=1) rfl)];exact ha
   simp only[go_sem,h0,h3,h4,e,nh M,hr.aA,gz hr.aA,u,a1];refine⟨_,?_,i+1,o',rfl,by simp,ci,rfl,?_,Z,?_⟩;·omega
   ·have:x.take (i+1)=x.take i++[x[i]]:=by simp[ci]
    rw[this,gK,VJ];exact U
   ·exact (he.tr (((eW.b1 none).tr E).aG (U8 _) _)).aD W (λ_ _ x=>x) (λm hm hm'=>by omega)
  ·simp at ci;simp only[go_sem,h3];obtain rfl:i=x.length:=by omega
   rw[VB]at ho;exact⟨ho,hc,he⟩
def vX (P:Program)(f:FuncId):Prop:=
 fK P f=true/\∀(F:Nat->Prop)(h:eX)(x:fA)(a:List AV),fu F h x.c a->lU x.es->
  fC P f [.aF a] h λr h'=>∃cs,r=.aF cs/\fI x.c (λm=>h.length<=m) h' cs/\eW eZ h h'
theorem Jf {P:Program}{f g:FuncId}(hf:Is P f (zW g))(hg:qH P g):vX P f:=by
 refine⟨hf.2,λF h x a hx hl=>fS hf ?_⟩;simp only[fA.c,fu,Rd]at hx;obtain⟨_,_,rfl,rfl,_,_,rfl,rfl,d,_,rfl,hx,rfl⟩:=hx;simp only[zW,go_sem,hx.aA];refine fy ⟨hg.1,hg.2 F _ x.es d (hx.up (eW.b2 _ _)) hl⟩ ?_;rintro r h2 ⟨hr,_,he⟩;have hA:=he.aA (jx _ _ _);have hB:=he.aA (iF _ _ _);have l1:=(UY.1 hA).1;have l2:=(UY.1 hB).1;simp only[go_sem,hA,hB,hr.aA,gz hr.aA,l1,l2,U9];refine⟨_,rfl,?_,?_⟩
 ·simp only[fA.c,fI,eY];refine⟨_,_,rfl,rfl,_,_,rfl,rfl,r,_,rfl,?_,rfl⟩;refine eY.aC _ (λm hm=>?_) (λm hm y hy=>?_) _ hr;·simp at hm;omega
  ·simp at hm;rw[UZ (by omega),UZ (by omega)];exact hy
 ·exact (((eW.b2 _ _).tr he).aG (U8 _) _).aG (by omega) _
structure fJ where
 aE:Int
 aC:Int
 to:Int
 aL:Int
 aG:Int
 aA:Int
 aH:Int
 aI:Int
 aM:Int
 aQ:Int
 aO:Int
 aN:Int
 aR:Int
 aP:Int
 ok:Bool
 es:List fU
 aF:List Int
 deriving DecidableEq
def fJ.c (m:fJ):List D:=[.aA .i64 m.aE,.aA .i64 m.aC,.aA .i64 m.to,.aA .i64 m.aL,.aA .i64 m.aG,.aA .i64 m.aA,.aA .i64 m.aH,.aA .i64 m.aI,.aA .i64 m.aM,.aA .i64 m.aQ,.aA .i64 m.aO,.aA .i64 m.aN,
 .aA .i64 m.aR,.aA .i64 m.aP,.aE m.ok,gK m.es,gq m.aF]
def fJ.aD (m:fJ)(e d:AV):List AV:=[.aA .i64 m.aE,.aA .i64 m.aC,.aA .i64 m.to,.aA .i64 m.aL,.aA .i64 m.aG,.aA .i64 m.aA,.aA .i64 m.aH,.aA .i64 m.aI,.aA .i64 m.aM,.aA .i64 m.aQ,.aA .i64 m.aO,.aA .i64 m.aN,
 .aA .i64 m.aR,.aA .i64 m.aP,.aE m.ok,e,d]
theorem qw {F h k n ds a}:fu F h (.aA k n :: ds) a↔∃r,a=.aA k n :: r/\fu F h ds r:=by
 simp only[fu,Rd];constructor;·rintro⟨x,r,h1,h2,h3⟩;subst h2;exact⟨r,h1,h3⟩
 ·rintro⟨r,h1,h3⟩;exact⟨_,r,h1,rfl,h3⟩
theorem HM {F h n ds a}:fu F h (.aE n :: ds) a↔∃r,a=.aE n :: r/\fu F h ds r:=by
 simp only[fu,Rd];constructor;·rintro⟨x,r,h1,h2,h3⟩;subst h2;exact⟨r,h1,h3⟩
 ·rintro⟨r,h1,h3⟩;exact⟨_,r,h1,rfl,h3⟩
theorem HQ {m:fJ}{F:Nat->Prop}{h:eX}{a:List AV}(hh:fu F h m.c a):∃e d,a=m.aD e d/\Rd F h (gK m.es) e/\Rd F h (gq m.aF) d:=by simp only[fJ.c,qw,HM]at hh;obtain⟨_,rfl,_,rfl,_,rfl,_,rfl,_,rfl,_,rfl,_,rfl,_,rfl,_,rfl,_,rfl,_,rfl,_,rfl,_,rfl,_,rfl,_,rfl,hh⟩:=hh;simp only[fu]at hh;obtain⟨e,_,rfl,he,d,_,rfl,hd,rfl⟩:=hh;exact⟨e,d,rfl,he,hd⟩
theorem CG {m:fJ}{F:Nat->Prop}{h:eX}{e d:AV}(he:Rd F h (gK m.es) e)(hd:Rd F h (gq m.aF) d):fu F h m.c (m.aD e d):=by simp only[fJ.c,fJ.aD,qw,HM];refine⟨_,rfl,_,rfl,_,rfl,_,rfl,_,rfl,_,rfl,_,rfl,_,rfl,_,rfl,_,rfl,_,rfl,_,rfl,_,rfl,_,rfl,_,rfl,?_⟩;simp only[fu];exact⟨e,_,rfl,he,d,_,rfl,hd,rfl⟩
def yz (P:Program)(f:FuncId):Prop:=
 fK P f=true/\∀(F:Nat->Prop)(h:eX)(m:fJ)(a:List AV),fu F h m.c a->lU m.es->m.aF.length<=2^40->
  fC P f [.aF a] h λr h'=>∃e d,r=.aF (m.aD e d)/\eY (gK m.es) (λk=>h.length<=k) h' e/\eY (gq m.aF) (λk=>h.length<=k) h' d/\eW eZ h h'
theorem Jg {P:Program}{f g k:FuncId}(hf:Is P f (zX g k))(hg:qH P g)(hk:ot P k .u8):yz P f:=by
 refine⟨hf.2,λF h m a hm hs hl=>fS hf ?_⟩;obtain⟨e,d,rfl,he,hd⟩:=HQ hm;simp only[zX,fJ.aD,go_sem,he.aA,hd.aA];refine fy ⟨hg.1,hg.2 F _ m.es _ (he.up (eW.b2 _ _)) hs⟩ ?_;rintro r h2 ⟨hr,_,x2⟩;have hA:=x2.aA (jx _ _ _);have hB:=x2.aA (iF _ _ _);have l1:=(UY.1 hA).1;have l2:=(UY.1 hB).1;simp only[go_sem,hA,hr.aA,gz hr.aA,l1];have x3:=((eW.b2 _ _).tr x2).aG (U8 h.length) (some (.aA 17 [m.aD r d] false));have E:eY (gK m.es) (λk=>h.length+2<=k) (h2.set h.length (some (.aA 17 [m.aD r d] false))) r:=
  eY.aC _ (λm hm=>by simp at hm;omega) (λm hm y hy=>by simp at hm;rw[UZ (by omega)];exact hy) _ hr
 have O:(h2.set h.length (some (.aA 17 [m.aD r d] false)))[h.length]?=_:=U5 l1;have C:(h2.set h.length (some (.aA 17 [m.aD r d] false)))[h.length+1]?=_:=(UZ (by omega)).trans hB;simp only[fJ.aD]at x3 E O C;generalize h2.set h.length (some (.aA 17 [[.aA .i64 m.aE,.aA .i64 m.aC,.aA .i64 m.to,.aA .i64 m.aL,.aA .i64 m.aG,.aA .i64 m.aA,.aA .i64 m.aH,.aA .i64 m.aI,.aA .i64 m.aM,.aA .i64 m.aQ,.aA .i64 m.aO,.aA .i64 m.aN,
  .aA .i64 m.aR,.aA .i64 m.aP,.aE m.ok,r,d]] false))=h3 at *
 refine fy ⟨hk.1,hk.2 F _ m.aF _ (hd.up x3) hl⟩ ?_;rintro s h4 ⟨u,_,x4⟩;have M:=x4.aA O;have I:=x4.aA C;have l3:=(UY.1 M).1;have l4:=(UY.1 I).1;have U:=E.up x4;have l0:=x3.1;have l5:=(UY.1 C).1;simp only[go_sem,M,I,hr.aA,u.aA,gz u.aA,l3,l4,U9];refine⟨r,s,rfl,?_,?_,((x3.tr x4).aG (U8 _) _).aG (by omega) _⟩;·exact eY.aC _ (λm hm=>by omega) (λm hm y hy=>by rw[UZ (by omega),UZ (by omega)];exact hy) _ U
 ·exact eY.aC _ (λm hm=>by omega) (λm hm y hy=>by rw[UZ (by omega),UZ (by omega)];exact hy) _ u
end Glb
