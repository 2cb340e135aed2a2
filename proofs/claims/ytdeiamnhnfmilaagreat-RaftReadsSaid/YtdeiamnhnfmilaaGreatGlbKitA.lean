/-
  A library of its own.
-/
import Derived.Test.YtdeiamnhnfmilaaGreatGlbLibD
import Derived.Test.YtdeiamnhnfmilaaGreatGlbCod
set_option linter.unusedSimpArgs false
set_option linter.unusedVariables false
set_option maxRecDepth 10000
set_option maxHeartbeats 4000000
open Nat (reduceAdd reduceEqDiff)
namespace Glb
open Go
def gj (l:List Int):D:=.sl 1 (l.map λn=>[.aA .u8 n])
def fM (l:List Int):D:=.sl 1 (l.map λn=>[.aA .i64 n])
structure fT where
 aA:Int
 aD:Int
 aC:List Int
 deriving DecidableEq
theorem fT.aH (x y:fT):decide (x=y)=(decide (x.aA=y.aA) && (decide (x.aD=y.aD) && decide (x.aC=y.aC))):=by cases x;cases y;simp[Bool.decide_and]
def fT.c (e:fT):List D:=[.aA .i64 e.aA,.aA .i64 e.aD,gj e.aC]
def gN (l:List fT):D:=.sl 3 (l.map fT.c)
structure fu where
 aA:Int
 aD:Int
 es:List fT
 deriving DecidableEq
theorem fu.aP (x y:fu):decide (x=y)=(decide (x.aA=y.aA) && (decide (x.aD=y.aD) && decide (x.es=y.es))):=by cases x;cases y;simp[Bool.decide_and]
def fu.c (l:fu):List D:=[.aA .i64 l.aA,.aA .i64 l.aD,gN l.es]
theorem jN {P:Program}{f:FuncId}{e:List AV}{h:eW}{b:AV}(hb:b.aJ h.length=true)(hc:fC P f e h λr h'=>r=b/\eV eY h h'):fC P f e h λr h'=>r=b/\h'=h:=
 (fC.aF (K':=λr=>r=b) hc λr h' hk=>⟨hk.2,by rw[hk.1];exact hb,hk.1⟩).aA λ_ _ hk=>⟨hk.2,hk.1⟩
theorem xP (n:Nat)(k:IntKind)(x:Int):(AV.aA k x).aJ n=true:=by simp only[AV.aJ]
theorem rX (n:Nat)(b:Bool):(AV.aE b).aJ n=true:=by simp only[AV.aJ]
theorem HO {n:Nat}{x y:AV}(h:x.aJ n=true)(h':y.aJ n=true):(AV.aI [x,y]).aJ n=true:=by simp only[AV.aJ,AV.aP,h,h',Bool.and_self]
def p7 (P:Program)(f:FuncId)(k:IntKind):Prop:=
 fP P f=true/\∀(F:Nat->Prop)(h:eW)(x y:List Int)(a b:AV),Rd F h (.sl 1 (x.map λn=>[.aA k n])) a->Rd F h (.sl 1 (y.map λn=>[.aA k n])) b->x.length<=2^40->
  fC P f [a,b] h λr h'=>r=.aE (decide (x=y))/\h'=h
theorem Ht {P:Program}{f:FuncId}(k:IntKind)(hf:Is P f wJ):p7 P f k:=by
 refine⟨hf.2,λF h x y a b hx hy hl=>fU hf ?_⟩;have lx:=hx.aC;have ly:=hy.aC;simp only[UI]at lx ly;simp only[wJ,go_sem,lx,ly];refine iw (λc=>?_) (λc=>?_);·simp only[go_sem];simp at c;simp;rintro rfl;exact c rfl
 ·simp only[go_sem];simp at c;have c':x.length=y.length:=by omega
  refine iM (λm L h'=>∃i:Nat,lk 0 L=a/\lk 1 L=b/\lk 5 L=.aA .i64 i/\h'=h/\i<=x.length/\m=x.length-i/\∀j:Nat,j<i->x[j]?=y[j]?) x.length ?_ ?_;·exact⟨0,by simp[fj,h_],by simp[fj,h_],by simp[fj],rfl,by omega,by omega,by omega⟩
  ·rintro m L h' ⟨i,h0,h1,h5,rfl,hi,rfl,hj⟩;simp only[Eu,go_sem,lx,h0,h5];refine iw (λci=>?_) (λci=>?_)
   ·simp at ci;have iy:i<y.length:=by omega
    obtain⟨p,cs,hp,O,I⟩:=hx.aE .i64 (i:=i) (d:=[.aA k x[i]]) (by omega) (by simp[ci]);obtain⟨q,cs',hq,M,u⟩:=hy.aE .i64 (i:=i) (d:=[.aA k y[i]]) (by omega) (by simp[iy]);simp only[fm,Rd]at I u;obtain⟨_,_,rfl,rfl,rfl⟩:=I;obtain⟨_,_,rfl,rfl,rfl⟩:=u;have e:IntKind.i64.wrap (↑i+1)=(i:Int)+1:=gi (by omega);simp only[go_sem,h0,h1,h5,hp,hq,ju O,ju M];refine iw (λce=>?_) (λce=>?_);·simp only[go_sem];simp at ce;simp;rintro rfl;exact ce rfl
    ·simp only[go_sem,h0,h1,h5,e];simp at ce;refine⟨_,?_,i+1,by simp,ci,rfl,λj hj'=>?_⟩;·omega
     ·rcases VX j i with hlt | E;·exact hj j hlt
      ·obtain rfl:j=i:=by omega
       simp[ci,iy,ce]
   ·simp at ci;simp only[go_sem];obtain rfl:i=x.length:=by omega
    have:x=y:=by
     apply Vf;intro j;rcases VX j x.length with hlt | E;·exact hj j hlt
     ·rw[U8 E,U8 (by omega)]
    simp[this]
theorem IT {P:Program}{f:FuncId}(hf:Is P f wJ):p7 P f .u8:=Ht .u8 hf
theorem IX {P:Program}{f:FuncId}(hf:Is P f Ew):p7 P f .i64:=Ht .i64 hf
def mQ (P:Program)(f:FuncId)(k:IntKind):Prop:=
 fP P f=true/\∀(F:Nat->Prop)(h:eW)(x:List Int)(a:AV),Rd F h (.sl 1 (x.map λn=>[.aA k n])) a->x.length<=2^40->
  fC P f [a] h λr h'=>eX (.sl 1 (x.map λn=>[.aA k n])) (λm=>h.length<=m) h' r/\gP h' r/\eV eY h h'
theorem Im {P:Program}{f:FuncId}(hf:Is P f zp):mQ P f .u8:=by
 refine⟨hf.2,λF h x a hx hl=>fU hf ?_⟩;have lx:=hx.aC;simp only[UI]at lx;simp only[zp,go_sem];refine iM (λm L h'=>∃(i:Nat)(o:AV),lk 0 L=a/\lk 3 L=o/\lk 4 L=.aA .i64 i/\i<=x.length/\m=x.length-i /\
  eX (.sl 1 ((x.take i).map λn=>[.aA .u8 n])) (λm=>h.length<=m) h' o/\gP h' o/\eV eY h h') x.length ?_ ?_
 ·exact⟨0,_,by simp[fj,h_],by simp[fj],by simp[fj],by omega,by omega,eX.aD 1,UF,eV.aC _ _⟩
 ·rintro m L h' ⟨i,o,h0,h3,h4,hi,rfl,ho,hc,he⟩;simp only[Ep,go_sem,lx,h0,h4];refine iw (λci=>?_) (λci=>?_)
  ·simp at ci;obtain⟨p,cs,hp,E,u⟩:=(Rd.aD (λ_ x=>x) (he.aE F) _ _ hx).aE .i64 (i:=i) (d:=[.aA .u8 x[i]]) (by omega) (by simp[ci]);simp only[fm,Rd]at u;obtain⟨_,_,rfl,rfl,rfl⟩:=u;have e:IntKind.i64.wrap (↑i+1)=(i:Int)+1:=gi (by omega);obtain⟨o',h2,ha,I,O,M⟩:=m7 (bytes:=1) (es:=[[.aA .u8 x[i]]]) (h:=h'++[some (.aA 1 [[.aA .u8 x[i]]] false)]) ho hc (eV.aF _ _ _) (ys:=[[.aA .u8 x[i]]])
    (by simp[fG,fI,eX]) he.1 (by simp;omega)
   simp only[go_sem,reduceEqDiff,reduceAdd,h0,h3,h4,e,hp,ju E,iq (lR h' 1 [[.aA .u8 x[i]]] false (some 1) (len:=1) rfl),ha];refine⟨_,?_,i+1,o',rfl,by simp,ci,rfl,?_,O,?_⟩;·omega
   ·have:x.take (i+1)=x.take i++[x[i]]:=by simp[ci]
    rw[this,Ve];exact I
   ·exact (he.aD (eV.aF eY h' _) (λ_ _ x=>x) (λ_ _ x=>x)).aD M (λ_ _ x=>x) (λm hm hm'=>by omega)
  ·simp at ci;simp only[go_sem,h3];obtain rfl:i=x.length:=by omega
   rw[U7]at ho;exact⟨ho,hc,he⟩
theorem Iq {P:Program}{f:FuncId}(hf:Is P f zx):mQ P f .i64:=by
 refine⟨hf.2,λF h x a hx hl=>fU hf ?_⟩;have lx:=hx.aC;simp only[UI]at lx;simp only[zx,go_sem];refine iM (λm L h'=>∃(i:Nat)(o:AV),lk 0 L=a/\lk 3 L=o/\lk 4 L=.aA .i64 i/\i<=x.length/\m=x.length-i /\
  eX (.sl 1 ((x.take i).map λn=>[.aA .i64 n])) (λm=>h.length<=m) h' o/\gP h' o/\eV eY h h') x.length ?_ ?_
 ·exact⟨0,_,by simp[fj,h_],by simp[fj],by simp[fj],by omega,by omega,eX.aD 1,UF,eV.aC _ _⟩
 ·rintro m L h' ⟨i,o,h0,h3,h4,hi,rfl,ho,hc,he⟩;simp only[Et,go_sem,lx,h0,h4];refine iw (λci=>?_) (λci=>?_)
  ·simp at ci;obtain⟨p,cs,hp,E,u⟩:=(Rd.aD (λ_ x=>x) (he.aE F) _ _ hx).aE .i64 (i:=i) (d:=[.aA .i64 x[i]]) (by omega) (by simp[ci]);simp only[fm,Rd]at u;obtain⟨_,_,rfl,rfl,rfl⟩:=u;have e:IntKind.i64.wrap (↑i+1)=(i:Int)+1:=gi (by omega);obtain⟨o',h2,ha,I,O,M⟩:=m7 (bytes:=8) (es:=[[.aA .i64 x[i]]]) (h:=h'++[some (.aA 1 [[.aA .i64 x[i]]] false)]) ho hc (eV.aF _ _ _) (ys:=[[.aA .i64 x[i]]])
    (by simp[fG,fI,eX]) he.1 (by simp;omega)
   simp only[go_sem,reduceEqDiff,reduceAdd,h0,h3,h4,e,hp,ju E,iq (lR h' 1 [[.aA .i64 x[i]]] false (some 1) (len:=1) rfl),ha];refine⟨_,?_,i+1,o',rfl,by simp,ci,rfl,?_,O,?_⟩;·omega
   ·have:x.take (i+1)=x.take i++[x[i]]:=by simp[ci]
    rw[this,Ve];exact I
   ·exact (he.aD (eV.aF eY h' _) (λ_ _ x=>x) (λ_ _ x=>x)).aD M (λ_ _ x=>x) (λm hm hm'=>by omega)
  ·simp at ci;simp only[go_sem,h3];obtain rfl:i=x.length:=by omega
   rw[U7]at ho;exact⟨ho,hc,he⟩
def sJ (P:Program)(f:FuncId):Prop:=
 fP P f=true/\∀(F:Nat->Prop)(h:eW)(x y:fT)(a b:List AV),fm F h x.c a->fm F h y.c b->x.aC.length<=2^40->
  fC P f [.aF a,.aF b] h λr h'=>r=.aE (decide (x=y))/\h'=h
theorem yV {P : Program} {f g : FuncId} (hf : Is P f (zF g)) (hg : p7 P g .u8) : sJ P f := by
 refine ⟨hf.2, λF h x y a b hx hy hl => jN rfl (fU hf ?_)⟩;simp only [fT.c, fm, Rd] at hx hy;obtain ⟨_, _, rfl, rfl, _, _, rfl, rfl, d, _, rfl, hx, rfl⟩ := hx;obtain ⟨_, _, rfl, rfl, _, _, rfl, rfl, e, _, rfl, hy, rfl⟩ := hy;simp only [zF, go_sem, hx.aA, hy.aA];repeat' (first
  | refine tY (λ_ => ?_) (λ_ => ?_)
  | (refine fA ⟨hg.1, hg.2 F _ x.aC y.aC _ _ (hx.up (eV.b2 _ _)) (hy.up (eV.b2 _ _)) hl⟩ ?_; rintro _ _ ⟨rfl, rfl⟩)
  | simp only [go_sem, *])
 all_goals exact ⟨by simp [fT.aH, *], eV.b2 _ _⟩
def DK (P:Program)(f:FuncId):Prop:=
 fP P f=true/\∀(F:Nat->Prop)(h:eW)(x y:List fT)(a b:AV),Rd F h (gN x) a->Rd F h (gN y) b->x.length<=2^40->(∀e∈x,e.aC.length<=2^40)->
  fC P f [a,b] h λr h'=>r=.aE (decide (x=y))/\h'=h
theorem IV {P:Program}{f g:FuncId}(hf:Is P f (zE g))(hg:sJ P g):DK P f:=by
 refine⟨hf.2,λF h x y a b hx hy hl hd=>fU hf ?_⟩;have lx:=hx.aC;have ly:=hy.aC;simp only[UI]at lx ly;simp only[zE,go_sem,lx,ly];refine iw (λc=>?_) (λc=>?_);·simp only[go_sem];simp at c;simp;rintro rfl;exact c rfl
 ·simp only[go_sem];simp at c;have c':x.length=y.length:=by omega
  refine iM (λm L h'=>∃i:Nat,lk 0 L=a/\lk 1 L=b/\lk 5 L=.aA .i64 i/\h'=h/\i<=x.length/\m=x.length-i/\∀j:Nat,j<i->x[j]?=y[j]?) x.length ?_ ?_;·exact⟨0,by simp[fj,h_],by simp[fj,h_],by simp[fj],rfl,by omega,by omega,by omega⟩
  ·rintro m L h' ⟨i,h0,h1,h5,rfl,hi,rfl,hj⟩;simp only[Ev,go_sem,lx,h0,h5];refine iw (λci=>?_) (λci=>?_)
   ·simp at ci;have iy:i<y.length:=by omega
    obtain⟨p,cs,hp,I,O⟩:=hx.aE .i64 (i:=i) (d:=x[i].c) (by omega) (by simp[ci]);obtain⟨q,cs',hq,E,u⟩:=hy.aE .i64 (i:=i) (d:=y[i].c) (by omega) (by simp[iy]);have e:IntKind.i64.wrap (↑i+1)=(i:Int)+1:=gi (by omega);have l1:=uz O;have l2:=uz u;simp only[fT.c,go_sem]at l1 l2;have t1:cs.take 3=cs:=UU (by omega);have t2:cs'.take 3=cs':=UU (by omega);simp only[go_sem,h0,h1,h5,hp,hq,ju I,ju E,l1,l2,t1,t2];refine fA ⟨hg.1,hg.2 F _ x[i] y[i] _ _ O u (hd _ (by simp))⟩ ?_;rintro _ _ ⟨rfl,rfl⟩;simp only[go_sem,ju I,ju E,l1,l2,t1,t2,or_true];refine iw (λce=>?_) (λce=>?_);·simp only[go_sem];simp at ce;simp;rintro rfl;exact ce rfl
    ·simp only[go_sem,h0,h1,h5,e];simp at ce;refine⟨_,?_,i+1,by simp,ci,rfl,λj hj'=>?_⟩;·omega
     ·rcases VX j i with hlt | M;·exact hj j hlt
      ·obtain rfl:j=i:=by omega
       simp[ci,iy,ce]
   ·simp at ci;simp only[go_sem];obtain rfl:i=x.length:=by omega
    have:x=y:=by
     apply Vf;intro j;rcases VX j x.length with hlt | M;·exact hj j hlt
     ·rw[U8 M,U8 (by omega)]
    simp[this]
def DL (P:Program)(f:FuncId):Prop:=
 fP P f=true/\∀(F:Nat->Prop)(h:eW)(x y:fu)(a b:List AV),fm F h x.c a->fm F h y.c b->x.es.length<=2^40->(∀e∈x.es,e.aC.length<=2^40)->
  fC P f [.aF a,.aF b] h λr h'=>r=.aE (decide (x=y))/\h'=h
theorem IY {P : Program} {f g : FuncId} (hf : Is P f (zH g)) (hg : DK P g) : DL P f := by
 refine ⟨hf.2, λF h x y a b hx hy hl hd => jN rfl (fU hf ?_)⟩;simp only [fu.c, fm, Rd] at hx hy;obtain ⟨_, _, rfl, rfl, _, _, rfl, rfl, d, _, rfl, hx, rfl⟩ := hx;obtain ⟨_, _, rfl, rfl, _, _, rfl, rfl, e, _, rfl, hy, rfl⟩ := hy;simp only [zH, go_sem, hx.aA, hy.aA];repeat' (first
  | refine tY (λ_ => ?_) (λ_ => ?_)
  | (refine fA ⟨hg.1, hg.2 F _ x.es y.es _ _ (hx.up (eV.b2 _ _)) (hy.up (eV.b2 _ _)) hl hd⟩ ?_; rintro _ _ ⟨rfl, rfl⟩)
  | simp only [go_sem, *])
 all_goals exact ⟨by simp [fu.aP, *], eV.b2 _ _⟩
theorem tK (k:IntKind)(a b:Int):mU false [.aA k a,.aA k b]=some (.aA k (min a b)):=by
 simp only[mU,mU.aA];by_cases h:b<a;·simp[h];omega
 ·simp[h];omega
theorem vf (k:IntKind)(a b:Int):mU true [.aA k a,.aA k b]=some (.aA k (max a b)):=by
 simp only[mU,mU.aA];by_cases h:a<b;·simp[h];omega
 ·simp[h];omega
theorem rU (g:fB->AV)(h:eW)(m:Bool)(xs:List fB):gx g h (.aE m xs)=mU m (xs.map g):=rfl
def me (l:List fT):Prop:=l.length<=2^30/\∀e∈l,e.aC.length<=2^40
def qN (P:Program)(f:FuncId):Prop:=
 fP P f=true/\∀(F:Nat->Prop)(h:eW)(x:List fT)(a:AV),Rd F h (gN x) a->me x->
  fC P f [a] h λr h'=>eX (gN x) (λm=>h.length<=m) h' r/\gP h' r/\eV eY h h'
theorem Df {P:Program}{f g:FuncId}(hf:Is P f (zt g))(hg:mQ P g .u8):qN P f:=by
 refine⟨hf.2,λF h x a hx hl=>fU hf ?_⟩;have lx:=hx.aC;simp only[UI]at lx;have hl1:=hl.1;simp only[zt,go_sem];refine iM (λm L h'=>∃(i:Nat)(o:AV),lk 0 L=a/\lk 3 L=o/\lk 4 L=.aA .i64 i/\i<=x.length/\m=x.length-i /\
  eX (gN (x.take i)) (λm=>h.length<=m) h' o/\gP h' o/\eV eY h h') x.length ?_ ?_
 ·exact⟨0,_,by simp[fj,h_],by simp[fj],by simp[fj],by omega,by omega,eX.aD 3,UF,eV.aC _ _⟩
 ·rintro m L h' ⟨i,o,h0,h3,h4,hi,rfl,ho,hc,he⟩;simp only[Er,go_sem,lx,h0,h4];refine iw (λci=>?_) (λci=>?_)
  ·simp at ci;obtain⟨p,cs,hp,M,U⟩:=(hx.up he).aE .i64 (i:=i) (d:=x[i].c) (by omega) (by simp[ci]);simp only[fT.c,fm,Rd]at U;obtain⟨_,_,rfl,rfl,_,_,rfl,rfl,d,_,rfl,hd,rfl⟩:=U;have e:IntKind.i64.wrap (↑i+1)=(i:Int)+1:=gi (by omega);have E:=rP M (eV.b1 none);simp only[go_sem,h0,h3,h4,hp,py M,pB E,Gs M];refine fA ⟨hg.1,hg.2 F _ x[i].aC d (hd.up (eV.b1 none)) (hl.2 _ (by simp))⟩ ?_;rintro r h2 ⟨hr,_,I⟩;have O:=rP E I;have u:=I.aA (J_ h' none);have hlt:=(Up.1 u).1;have hs:(h2.set h'.length (some (.aA 3 [[.aA .i64 x[i].aA,.aA .i64 x[i].aD,r]] false)))[h'.length]?=some (some (.aA 3 [[.aA .i64 x[i].aA,.aA .i64 x[i].aD,r]] false)):=Ux hlt;have hpc3:=rP M (((eV.b1 none).tr I).aH (Uy _) (some (.aA 3 [[.aA .i64 x[i].aA,.aA .i64 x[i].aD,r]] false)));obtain⟨o',a3,ha,W,a1,Z⟩:=m7 (bytes:=40) (es:=[x[i].c]) (h:=h2.set h'.length (some (.aA 3 [[.aA .i64 x[i].aA,.aA .i64 x[i].aD,r]] false))) ho hc
    (((eV.b1 none).tr I).aH (Uy _) _) (ys:=[[.aA .i64 x[i].aA,.aA .i64 x[i].aD,r]])
    (by
     simp only[fG,fI,fT.c,eX];refine⟨_,_,rfl,⟨_,_,rfl,rfl,_,_,rfl,rfl,r,_,rfl,?_,rfl⟩,rfl⟩;refine eX.aC _ (λm hm=>?_) (λm hm y hy=>?_) _ hr;·simp at hm;omega
     ·rw[Uq (by simp at hm;omega)];exact hy) he.1 (by simp;omega)
   have a2:oG (h2.set h'.length (some (.aA 3 [[.aA .i64 x[i].aA,.aA .i64 x[i].aD,r]] false))) 3 40 o (.aG h'.length 3 0 1 (some 1))=some (o',a3):=by rw[iq (qc hs (some 1) (len:=1) rfl)];exact ha
   simp only[go_sem,h0,h3,h4,e,pB O,hr.aA,gC hr.aA,u,a2];refine⟨_,?_,i+1,o',rfl,by simp,ci,rfl,?_,a1,?_⟩;·omega
   ·have:x.take (i+1)=x.take i++[x[i]]:=by simp[ci]
    rw[this,gN,Ve];exact W
   ·exact (he.tr (((eV.b1 none).tr I).aH (Uy _) _)).aD Z (λ_ _ x=>x) (λm hm hm'=>by omega)
  ·simp at ci;simp only[go_sem,h3];obtain rfl:i=x.length:=by omega
   rw[U7]at ho;exact⟨ho,hc,he⟩
def vS (P:Program)(f:FuncId):Prop:=
 fP P f=true/\∀(F:Nat->Prop)(h:eW)(x:fu)(a:List AV),fm F h x.c a->me x.es->
  fC P f [.aF a] h λr h'=>∃cs,r=.aF cs/\fI x.c (λm=>h.length<=m) h' cs/\eV eY h h'
theorem Ir {P:Program}{f g:FuncId}(hf:Is P f (zy g))(hg:qN P g):vS P f:=by
 refine⟨hf.2,λF h x a hx hl=>fU hf ?_⟩;simp only[fu.c,fm,Rd]at hx;obtain⟨_,_,rfl,rfl,_,_,rfl,rfl,d,_,rfl,hx,rfl⟩:=hx;simp only[zy,go_sem,hx.aA];refine fA ⟨hg.1,hg.2 F _ x.es d (hx.up (eV.b2 _ _)) hl⟩ ?_;rintro r h2 ⟨hr,_,he⟩;have hA:=he.aA (jJ _ _ _);have hB:=he.aA (iO _ _ _);have l1:=(Up.1 hA).1;have l2:=(Up.1 hB).1;simp only[go_sem,hA,hB,hr.aA,gC hr.aA,l1,l2,UA];refine⟨_,rfl,?_,?_⟩
 ·simp only[fu.c,fI,eX];refine⟨_,_,rfl,rfl,_,_,rfl,rfl,r,_,rfl,?_,rfl⟩;refine eX.aC _ (λm hm=>?_) (λm hm y hy=>?_) _ hr;·simp at hm;omega
  ·simp at hm;rw[Uq (by omega),Uq (by omega)];exact hy
 ·exact (((eV.b2 _ _).tr he).aH (Uy _) _).aH (by omega) _
structure fE where
 aD:Int
 aC:Int
 to:Int
 aM:Int
 aF:Int
 aA:Int
 aH:Int
 aJ:Int
 aK:Int
 aQ:Int
 aO:Int
 aN:Int
 aR:Int
 aP:Int
 ok:Bool
 es:List fT
 aG:List Int
 deriving DecidableEq
def fE.c (m:fE):List D:=[.aA .i64 m.aD,.aA .i64 m.aC,.aA .i64 m.to,.aA .i64 m.aM,.aA .i64 m.aF,.aA .i64 m.aA,.aA .i64 m.aH,.aA .i64 m.aJ,.aA .i64 m.aK,.aA .i64 m.aQ,.aA .i64 m.aO,.aA .i64 m.aN,
 .aA .i64 m.aR,.aA .i64 m.aP,.aE m.ok,gN m.es,gj m.aG]
def fE.aE (m:fE)(e d:AV):List AV:=[.aA .i64 m.aD,.aA .i64 m.aC,.aA .i64 m.to,.aA .i64 m.aM,.aA .i64 m.aF,.aA .i64 m.aA,.aA .i64 m.aH,.aA .i64 m.aJ,.aA .i64 m.aK,.aA .i64 m.aQ,.aA .i64 m.aO,.aA .i64 m.aN,
 .aA .i64 m.aR,.aA .i64 m.aP,.aE m.ok,e,d]
theorem qD {F h k n ds a}:fm F h (.aA k n :: ds) a↔∃r,a=.aA k n :: r/\fm F h ds r:=by
 simp only[fm,Rd];constructor;·rintro⟨x,r,h1,h2,h3⟩;subst h2;exact⟨r,h1,h3⟩
 ·rintro⟨r,h1,h3⟩;exact⟨_,r,h1,rfl,h3⟩
theorem G6 {F h n ds a}:fm F h (.aE n :: ds) a↔∃r,a=.aE n :: r/\fm F h ds r:=by
 simp only[fm,Rd];constructor;·rintro⟨x,r,h1,h2,h3⟩;subst h2;exact⟨r,h1,h3⟩
 ·rintro⟨r,h1,h3⟩;exact⟨_,r,h1,rfl,h3⟩
theorem G_ {m:fE}{F:Nat->Prop}{h:eW}{a:List AV}(hh:fm F h m.c a):∃e d,a=m.aE e d/\Rd F h (gN m.es) e/\Rd F h (gj m.aG) d:=by simp only[fE.c,qD,G6]at hh;obtain⟨_,rfl,_,rfl,_,rfl,_,rfl,_,rfl,_,rfl,_,rfl,_,rfl,_,rfl,_,rfl,_,rfl,_,rfl,_,rfl,_,rfl,_,rfl,hh⟩:=hh;simp only[fm]at hh;obtain⟨e,_,rfl,he,d,_,rfl,hd,rfl⟩:=hh;exact⟨e,d,rfl,he,hd⟩
theorem Cf {m:fE}{F:Nat->Prop}{h:eW}{e d:AV}(he:Rd F h (gN m.es) e)(hd:Rd F h (gj m.aG) d):fm F h m.c (m.aE e d):=by simp only[fE.c,fE.aE,qD,G6];refine⟨_,rfl,_,rfl,_,rfl,_,rfl,_,rfl,_,rfl,_,rfl,_,rfl,_,rfl,_,rfl,_,rfl,_,rfl,_,rfl,_,rfl,_,rfl,?_⟩;simp only[fm];exact⟨e,_,rfl,he,d,_,rfl,hd,rfl⟩
def yk (P:Program)(f:FuncId):Prop:=
 fP P f=true/\∀(F:Nat->Prop)(h:eW)(m:fE)(a:List AV),fm F h m.c a->me m.es->m.aG.length<=2^40->
  fC P f [.aF a] h λr h'=>∃e d,r=.aF (m.aE e d)/\eX (gN m.es) (λk=>h.length<=k) h' e/\eX (gj m.aG) (λk=>h.length<=k) h' d/\eV eY h h'
theorem It {P:Program}{f g k:FuncId}(hf:Is P f (zA g k))(hg:qN P g)(hk:mQ P k .u8):yk P f:=by
 refine⟨hf.2,λF h m a hm hs hl=>fU hf ?_⟩;obtain⟨e,d,rfl,he,hd⟩:=G_ hm;simp only[zA,fE.aE,go_sem,he.aA,hd.aA];refine fA ⟨hg.1,hg.2 F _ m.es _ (he.up (eV.b2 _ _)) hs⟩ ?_;rintro r h2 ⟨hr,_,x2⟩;have hA:=x2.aA (jJ _ _ _);have hB:=x2.aA (iO _ _ _);have l1:=(Up.1 hA).1;have l2:=(Up.1 hB).1;simp only[go_sem,hA,hr.aA,gC hr.aA,l1];have x3:=((eV.b2 _ _).tr x2).aH (Uy h.length) (some (.aA 17 [m.aE r d] false));have I:eX (gN m.es) (λk=>h.length+2<=k) (h2.set h.length (some (.aA 17 [m.aE r d] false))) r:=
  eX.aC _ (λm hm=>by simp at hm;omega) (λm hm y hy=>by simp at hm;rw[Uq (by omega)];exact hy) _ hr
 have U:(h2.set h.length (some (.aA 17 [m.aE r d] false)))[h.length]?=_:=Ux l1;have E:(h2.set h.length (some (.aA 17 [m.aE r d] false)))[h.length+1]?=_:=(Uq (by omega)).trans hB;simp only[fE.aE]at x3 I U E;generalize h2.set h.length (some (.aA 17 [[.aA .i64 m.aD,.aA .i64 m.aC,.aA .i64 m.to,.aA .i64 m.aM,.aA .i64 m.aF,.aA .i64 m.aA,.aA .i64 m.aH,.aA .i64 m.aJ,.aA .i64 m.aK,.aA .i64 m.aQ,.aA .i64 m.aO,.aA .i64 m.aN,
  .aA .i64 m.aR,.aA .i64 m.aP,.aE m.ok,r,d]] false))=h3 at *
 refine fA ⟨hk.1,hk.2 F _ m.aG _ (hd.up x3) hl⟩ ?_;rintro s h4 ⟨u,_,x4⟩;have O:=x4.aA U;have M:=x4.aA E;have l3:=(Up.1 O).1;have l4:=(Up.1 M).1;have W:=I.up x4;have l0:=x3.1;have l5:=(Up.1 E).1;simp only[go_sem,O,M,hr.aA,u.aA,gC u.aA,l3,l4,UA];refine⟨r,s,rfl,?_,?_,((x3.tr x4).aH (Uy _) _).aH (by omega) _⟩;·exact eX.aC _ (λm hm=>by omega) (λm hm y hy=>by rw[Uq (by omega),Uq (by omega)];exact hy) _ W
 ·exact eX.aC _ (λm hm=>by omega) (λm hm y hy=>by rw[Uq (by omega),Uq (by omega)];exact hy) _ u
end Glb
