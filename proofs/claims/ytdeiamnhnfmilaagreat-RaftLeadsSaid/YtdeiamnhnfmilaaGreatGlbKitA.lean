/-
  A library of its own.
-/
import Derived.Test.YtdeiamnhnfmilaaGreatGlbLibD
import Derived.Test.YtdeiamnhnfmilaaGreatGlbCod
set_option linter.unusedSimpArgs false
set_option linter.unusedVariables false
set_option maxRecDepth 10000
set_option maxHeartbeats 4000000
open Nat (reduceAdd reduceEqDiff)
namespace Glb
open Go
variable {P:Program}{f g:FuncId}
def gG (l:List Int):D:=.sl 1 (l.map λn=>[.aA .u8 n])
def f_ (l:List Int):D:=.sl 1 (l.map λn=>[.aA .i64 n])
structure gw where
 aA:Int
 aC:Int
 aD:List Int
 deriving DecidableEq
theorem gw.aH (x y:gw):decide (x=y)=(decide (x.aA=y.aA) && (decide (x.aC=y.aC) && decide (x.aD=y.aD))):=by cases x;cases y;simp[Bool.decide_and]
def gw.c (e:gw):List D:=[.aA .i64 e.aA,.aA .i64 e.aC,gG e.aD]
def gZ (l:List gw):D:=.sl 3 (l.map gw.c)
structure fG where
 aA:Int
 aD:Int
 es:List gw
 deriving DecidableEq
theorem fG.aP (x y:fG):decide (x=y)=(decide (x.aA=y.aA) && (decide (x.aD=y.aD) && decide (x.es=y.es))):=by cases x;cases y;simp[Bool.decide_and]
def fG.c (l:fG):List D:=[.aA .i64 l.aA,.aA .i64 l.aD,gZ l.es]
theorem kx {e:List AV}{h:fu}{b:AV}(hb:b.aJ h.length=true)(hc:fO P f e h λr h'=>r=b/\fq fB h h'):fO P f e h λr h'=>r=b/\h'=h:=
 (fO.aF (K':=λr=>r=b) hc λr h' hk=>⟨hk.2,by rw[hk.1];exact hb,hk.1⟩).aA λ_ _ hk=>⟨hk.2,hk.1⟩
theorem zQ (n:Nat)(k:IntKind)(x:Int):(AV.aD k x).aJ n=true:=by simp only[AV.aJ]
theorem tO (n:Nat)(b:Bool):(AV.aE b).aJ n=true:=by simp only[AV.aJ]
theorem J9 {n:Nat}{x y:AV}(h:x.aJ n=true)(h':y.aJ n=true):(AV.aI [x,y]).aJ n=true:=by simp only[AV.aJ,AV.aP,h,h',ZJ]
variable {P:Program}{f g:FuncId}
def ri (P:Program)(f:FuncId)(k:IntKind):Prop:=
 fZ P f=true/\∀(F:Nat->Prop)(h:fu)(x y:List Int)(a b:AV),Rd F h (.sl 1 (x.map λn=>[.aA k n])) a->Rd F h (.sl 1 (y.map λn=>[.aA k n])) b->x.length<=2^40->
  fO P f [a,b] h λr h'=>r=.aE (decide (x=y))/\h'=h
theorem JG (k:IntKind)(hf:Is P f yw):ri P f k:=by
 refine⟨hf.2,λF h x y a b hx hy hl=>gy hf ?_⟩;have lx:=hx.aC;have ly:=hy.aC;simp only[Xd]at lx ly;simp only[yw,go_sem,lx,ly];refine iQ (λc=>?_) (λc=>?_);·simp only[go_sem];simp at c;simp;rintro rfl;exact c rfl
 ·simp only[go_sem];simp at c;have c':x.length=y.length:=ω;refine iP (λm L h'=>∃i:Nat,lk 0 L=a/\lk 1 L=b/\lk 5 L=ι i/\h'=h/\i<=x.length/\m=x.length-i/\∀j:Nat,j<i->x[j]?=y[j]?) x.length ?_ ?_;·exact⟨0,by simp[fE,iw],by simp[fE,iw],by simp[fE],rfl,ω,ω,ω⟩
  ·rintro m L h' ⟨i,h0,h1,h5,rfl,hi,rfl,hj⟩;simp only[GK,go_sem,lx,h0,h5];refine iQ (λci=>?_) (λci=>?_)
   ·simp at ci;have iy:i<y.length:=ω;obtain⟨p,cs,hp,U,I⟩:=hx.aD .i64 (i:=i) (d:=[.aA k x[i]]) ω (by simp[ci]);obtain⟨q,cs',hq,O,u⟩:=hy.aD .i64 (i:=i) (d:=[.aA k y[i]]) ω (by simp[iy]);simp only[fH,Rd]at I u;obtain⟨_,_,rfl,rfl,rfl⟩:=I;obtain⟨_,_,rfl,rfl,rfl⟩:=u;have e:IntKind.i64.wrap (↑i+1)=(i:Int)+1:=gF ω;simp only[go_sem,h0,h1,h5,hp,hq,jN U,jN O];refine iQ (λce=>?_) (λce=>?_);·simp only[go_sem];simp at ce;simp;rintro rfl;exact ce rfl
    ·simp only[go_sem,h0,h1,h5,e];simp at ce;refine⟨_,?_,i+1,ς,ci,rfl,λj hj'=>?_⟩;·omega
     ·rcases YQ j i with hlt | E;·exact hj j hlt
      ·obtain rfl:j=i:=ω;simp[ci,iy,ce]
   ·simp at ci;simp only[go_sem];obtain rfl:i=x.length:=ω;have:x=y:=by
     apply XT;intro j;rcases YQ j x.length with hlt | E;·exact hj j hlt
     ·rw[XP E,XP ω]
    simp[this]
theorem K6 (hf:Is P f yw):ri P f .u8:=JG .u8 hf
theorem K9 (hf:Is P f GM):ri P f .i64:=JG .i64 hf
def pH (P:Program)(f:FuncId)(k:IntKind):Prop:=
 fZ P f=true/\∀(F:Nat->Prop)(h:fu)(x:List Int)(a:AV),Rd F h (.sl 1 (x.map λn=>[.aA k n])) a->x.length<=2^40->
  fO P f [a] h λr h'=>fA (.sl 1 (x.map λn=>[.aA k n])) (λm=>h.length<=m) h' r/\ic h' r/\fq fB h h'
theorem Ky (hf:Is P f Bc):pH P f .u8:=by
 refine⟨hf.2,λF h x a hx hl=>gy hf ?_⟩;have lx:=hx.aC;simp only[Xd]at lx;simp only[Bc,go_sem];refine iP (λm L h'=>∃(i:Nat)(o:AV),lk 0 L=a/\lk 3 L=o/\lk 4 L=ι i/\i<=x.length/\m=x.length-i /\
  fA (.sl 1 ((x.take i).map λn=>[.aA .u8 n])) (λm=>h.length<=m) h' o/\ic h' o/\fq fB h h') x.length ?_ ?_
 ·exact⟨0,_,by simp[fE,iw],by simp[fE],by simp[fE],ω,ω,fA.aD 1,Xb,fq.aC _ _⟩
 ·rintro m L h' ⟨i,o,h0,h3,h4,hi,rfl,ho,hc,he⟩;simp only[GH,go_sem,lx,h0,h4];refine iQ (λci=>?_) (λci=>?_)
  ·simp at ci;obtain⟨p,cs,hp,E,u⟩:=(Rd.aE (λ_ x=>x) (he.aE F) _ _ hx).aD .i64 (i:=i) (d:=[.aA .u8 x[i]]) ω (by simp[ci]);simp only[fH,Rd]at u;obtain⟨_,_,rfl,rfl,rfl⟩:=u;have e:IntKind.i64.wrap (↑i+1)=(i:Int)+1:=gF ω;obtain⟨o',h2,ha,I,U,O⟩:=nW (bytes:=1) (es:=[[.aA .u8 x[i]]]) (h:=h'++[some (.aA 1 [[.aD .u8 x[i]]] false)]) ho hc (fq.aF _ _ _) (ys:=[[.aD .u8 x[i]]])
    (by simp[fQ,fU,fA]) he.1 (by simp;omega)
   simp only[go_sem,reduceEqDiff,reduceAdd,h0,h3,h4,e,hp,jN E,iR (mH h' 1 [[.aD .u8 x[i]]] false (some 1) (len:=1) rfl),ha];refine⟨_,?_,i+1,o',rfl,ς,ci,rfl,?_,U,?_⟩;·omega
   ·have:x.take (i+1)=x.take i++[x[i]]:=by simp[ci]
    rw[this,XU];exact I
   ·exact (he.aD (fq.aF fB h' _) (λ_ _ x=>x) (λ_ _ x=>x)).aD O (λ_ _ x=>x) (λm hm hm'=>ω)
  ·simp at ci;simp only[go_sem,h3];obtain rfl:i=x.length:=ω;rw[XF]at ho;exact⟨ho,hc,he⟩
theorem KB (hf:Is P f Bg):pH P f .i64:=by
 refine⟨hf.2,λF h x a hx hl=>gy hf ?_⟩;have lx:=hx.aC;simp only[Xd]at lx;simp only[Bg,go_sem];refine iP (λm L h'=>∃(i:Nat)(o:AV),lk 0 L=a/\lk 3 L=o/\lk 4 L=.aD .i64 i/\i<=x.length/\m=x.length-i /\
  fA (.sl 1 ((x.take i).map λn=>[.aA .i64 n])) (λm=>h.length<=m) h' o/\ic h' o/\fq fB h h') x.length ?_ ?_
 ·exact⟨0,_,by simp[fE,iw],by simp[fE],by simp[fE],ω,ω,fA.aD 1,Xb,fq.aC _ _⟩
 ·rintro m L h' ⟨i,o,h0,h3,h4,hi,rfl,ho,hc,he⟩;simp only[GJ,go_sem,lx,h0,h4];refine iQ (λci=>?_) (λci=>?_)
  ·simp at ci;obtain⟨p,cs,hp,E,u⟩:=(Rd.aE (λ_ x=>x) (he.aE F) _ _ hx).aD .i64 (i:=i) (d:=[.aA .i64 x[i]]) ω (by simp[ci]);simp only[fH,Rd]at u;obtain⟨_,_,rfl,rfl,rfl⟩:=u;have e:IntKind.i64.wrap (↑i+1)=(i:Int)+1:=gF ω;obtain⟨o',h2,ha,I,U,O⟩:=nW (bytes:=8) (es:=[[.aA .i64 x[i]]]) (h:=h'++[some (.aA 1 [[.aD .i64 x[i]]] false)]) ho hc (fq.aF _ _ _) (ys:=[[.aD .i64 x[i]]])
    (by simp[fQ,fU,fA]) he.1 (by simp;omega)
   simp only[go_sem,reduceEqDiff,reduceAdd,h0,h3,h4,e,hp,jN E,iR (mH h' 1 [[.aD .i64 x[i]]] false (some 1) (len:=1) rfl),ha];refine⟨_,?_,i+1,o',rfl,ς,ci,rfl,?_,U,?_⟩;·omega
   ·have:x.take (i+1)=x.take i++[x[i]]:=by simp[ci]
    rw[this,XU];exact I
   ·exact (he.aD (fq.aF fB h' _) (λ_ _ x=>x) (λ_ _ x=>x)).aD O (λ_ _ x=>x) (λm hm hm'=>ω)
  ·simp at ci;simp only[go_sem,h3];obtain rfl:i=x.length:=ω;rw[XF]at ho;exact⟨ho,hc,he⟩
variable {P:Program}{f g:FuncId}
def uj (P:Program)(f:FuncId):Prop:=
 fZ P f=true/\∀(F:Nat->Prop)(h:fu)(x y:gw)(a b:List AV),fH F h x.c a->fH F h y.c b->x.aD.length<=2^40->
  fO P f [.aF a,.aF b] h λr h'=>r=.aE (decide (x=y))/\h'=h
theorem xZ (hf : Is P f (Bm g)) (hg : ri P g .u8) : uj P f := by
 refine ⟨hf.2, λF h x y a b hx hy hl => kx rfl (gy hf ?_)⟩;simp only [gw.c, fH, Rd] at hx hy;obtain ⟨_, _, rfl, rfl, _, _, rfl, rfl, d, _, rfl, hx, rfl⟩ := hx;obtain ⟨_, _, rfl, rfl, _, _, rfl, rfl, e, _, rfl, hy, rfl⟩ := hy;simp only [Bm, go_sem, hx.aA, hy.aA];repeat' (first
  | refine vB (λ_ => ?_) (λ_ => ?_)
  | (refine fK ⟨hg.1, hg.2 F _ x.aD y.aD _ _ (hx.up (fq.b2 _ _)) (hy.up (fq.b2 _ _)) hl⟩ ?_; rintro _ _ ⟨rfl, rfl⟩)
  | simp only [go_sem, *])
 all_goals exact ⟨by simp [gw.aH, *], fq.b2 _ _⟩
def FR (P:Program)(f:FuncId):Prop:=
 fZ P f=true/\∀(F:Nat->Prop)(h:fu)(x y:List gw)(a b:AV),Rd F h (gZ x) a->Rd F h (gZ y) b->x.length<=2^40->(∀e∈x,e.aD.length<=2^40)->
  fO P f [a,b] h λr h'=>r=.aE (decide (x=y))/\h'=h
theorem FT (hf:Is P f (Bl g))(hg:uj P g):FR P f:=by
 refine⟨hf.2,λF h x y a b hx hy hl hd=>gy hf ?_⟩;have lx:=hx.aC;have ly:=hy.aC;simp only[Xd]at lx ly;simp only[Bl,go_sem,lx,ly];refine iQ (λc=>?_) (λc=>?_);·simp only[go_sem];simp at c;simp;rintro rfl;exact c rfl
 ·simp only[go_sem];simp at c;have c':x.length=y.length:=ω;refine iP (λm L h'=>∃i:Nat,lk 0 L=a/\lk 1 L=b/\lk 5 L=ι i/\h'=h/\i<=x.length/\m=x.length-i/\∀j:Nat,j<i->x[j]?=y[j]?) x.length ?_ ?_;·exact⟨0,by simp[fE,iw],by simp[fE,iw],by simp[fE],rfl,ω,ω,ω⟩
  ·rintro m L h' ⟨i,h0,h1,h5,rfl,hi,rfl,hj⟩;simp only[GL,go_sem,lx,h0,h5];refine iQ (λci=>?_) (λci=>?_)
   ·simp at ci;have iy:i<y.length:=ω;obtain⟨p,cs,hp,I,U⟩:=hx.aD .i64 (i:=i) (d:=x[i].c) ω (by simp[ci]);obtain⟨q,cs',hq,E,u⟩:=hy.aD .i64 (i:=i) (d:=y[i].c) ω (by simp[iy]);have e:IntKind.i64.wrap (↑i+1)=(i:Int)+1:=gF ω;have l1:=vS U;have l2:=vS u;simp only[gw.c,go_sem]at l1 l2;have t1:cs.take 3=cs:=Xu ω;have t2:cs'.take 3=cs':=Xu ω;simp only[go_sem,h0,h1,h5,hp,hq,jN I,jN E,l1,l2,t1,t2];refine fK ⟨hg.1,hg.2 F _ x[i] y[i] _ _ U u (hd _ ς)⟩ ?_;rintro _ _ ⟨rfl,rfl⟩;simp only[go_sem,jN I,jN E,l1,l2,t1,t2,or_true];refine iQ (λce=>?_) (λce=>?_);·simp only[go_sem];simp at ce;simp;rintro rfl;exact ce rfl
    ·simp only[go_sem,h0,h1,h5,e];simp at ce;refine⟨_,?_,i+1,ς,ci,rfl,λj hj'=>?_⟩;·omega
     ·rcases YQ j i with hlt | O;·exact hj j hlt
      ·obtain rfl:j=i:=ω;simp[ci,iy,ce]
   ·simp at ci;simp only[go_sem];obtain rfl:i=x.length:=ω;have:x=y:=by
     apply XT;intro j;rcases YQ j x.length with hlt | O;·exact hj j hlt
     ·rw[XP O,XP ω]
    simp[this]
def qq (P:Program)(f:FuncId):Prop:=
 fZ P f=true/\∀(F:Nat->Prop)(h:fu)(x y:fG)(a b:List AV),fH F h x.c a->fH F h y.c b->x.es.length<=2^40->(∀e∈x.es,e.aD.length<=2^40)->
  fO P f [.aF a,.aF b] h λr h'=>r=.aE (decide (x=y))/\h'=h
theorem FU (hf : Is P f (Bo g)) (hg : FR P g) : qq P f := by
 refine ⟨hf.2, λF h x y a b hx hy hl hd => kx rfl (gy hf ?_)⟩;simp only [fG.c, fH, Rd] at hx hy;obtain ⟨_, _, rfl, rfl, _, _, rfl, rfl, d, _, rfl, hx, rfl⟩ := hx;obtain ⟨_, _, rfl, rfl, _, _, rfl, rfl, e, _, rfl, hy, rfl⟩ := hy;simp only [Bo, go_sem, hx.aA, hy.aA];repeat' (first
  | refine vB (λ_ => ?_) (λ_ => ?_)
  | (refine fK ⟨hg.1, hg.2 F _ x.es y.es _ _ (hx.up (fq.b2 _ _)) (hy.up (fq.b2 _ _)) hl hd⟩ ?_; rintro _ _ ⟨rfl, rfl⟩)
  | simp only [go_sem, *])
 all_goals exact ⟨by simp [fG.aP, *], fq.b2 _ _⟩
theorem uZ (k:IntKind)(a b:Int):nQ false [.aD k a,.aD k b]=some (.aD k (min a b)):=by
 simp only[nQ,nQ.aA];by_cases h:b<a;·simp[h];omega
 ·simp[h];omega
theorem wP (k:IntKind)(a b:Int):nQ true [.aD k a,.aD k b]=some (.aD k (max a b)):=by
 simp only[nQ,nQ.aA];by_cases h:a<b;·simp[h];omega
 ·simp[h];omega
theorem tL (g:fN->AV)(h:fu)(m:Bool)(xs:List fN):gM g h (.aE m xs)=nQ m (xs.map g):=rfl
variable {P:Program}{f g:FuncId}
def mS (l:List gw):Prop:=l.length<=2^30/\∀e∈l,e.aD.length<=2^40
def sj (P:Program)(f:FuncId):Prop:=
 fZ P f=true/\∀(F:Nat->Prop)(h:fu)(x:List gw)(a:AV),Rd F h (gZ x) a->mS x->
  fO P f [a] h λr h'=>fA (gZ x) (λm=>h.length<=m) h' r/\ic h' r/\fq fB h h'
theorem Fo (hf:Is P f (Be g))(hg:pH P g .u8):sj P f:=by
 refine⟨hf.2,λF h x a hx hl=>gy hf ?_⟩;have lx:=hx.aC;simp only[Xd]at lx;have hl1:=hl.1;simp only[Be,go_sem];refine iP (λm L h'=>∃(i:Nat)(o:AV),lk 0 L=a/\lk 3 L=o/\lk 4 L=ι i/\i<=x.length/\m=x.length-i /\
  fA (gZ (x.take i)) (λm=>h.length<=m) h' o/\ic h' o/\fq fB h h') x.length ?_ ?_
 ·exact⟨0,_,by simp[fE,iw],by simp[fE],by simp[fE],ω,ω,fA.aD 3,Xb,fq.aC _ _⟩
 ·rintro m L h' ⟨i,o,h0,h3,h4,hi,rfl,ho,hc,he⟩;simp only[GI,go_sem,lx,h0,h4];refine iQ (λci=>?_) (λci=>?_)
  ·simp at ci;obtain⟨p,cs,hp,O,W⟩:=(hx.up he).aD .i64 (i:=i) (d:=x[i].c) ω (by simp[ci]);simp only[gw.c,fH,Rd]at W;obtain⟨_,_,rfl,rfl,_,_,rfl,rfl,d,_,rfl,hd,rfl⟩:=W;have e:IntKind.i64.wrap (↑i+1)=(i:Int)+1:=gF ω;have E:=tJ O (fq.b1 none);simp only[go_sem,h0,h3,h4,hp,oW O,pR E,IQ O];refine fK ⟨hg.1,hg.2 F _ x[i].aD d (hd.up (fq.b1 none)) (hl.2 _ ς)⟩ ?_;rintro r h2 ⟨hr,_,I⟩;have U:=tJ E I;have u:=I.aA (MA h' none);have hlt:=(WR.1 u).1;have hs:(h2.set h'.length (some (.aA 3 [[ι x[i].aA,ι x[i].aC,r]] false)))[h'.length]?=ar 3 [[ι x[i].aA,ι x[i].aC,r]]:=W0 hlt;have hpc3:=tJ O (((fq.b1 none).tr I).aI (WX _) (some (.aA 3 [[ι x[i].aA,ι x[i].aC,r]] false)));obtain⟨o',a4,ha,Z,a2,a1⟩:=nW (bytes:=40) (es:=[x[i].c]) (h:=h2.set h'.length (some (.aA 3 [[ι x[i].aA,ι x[i].aC,r]] false))) ho hc
    (((fq.b1 none).tr I).aI (WX _) _) (ys:=[[ι x[i].aA,ι x[i].aC,r]])
    (by
     simp only[fQ,fU,gw.c,fA];refine⟨_,_,rfl,⟨_,_,rfl,rfl,_,_,rfl,rfl,r,_,rfl,?_,rfl⟩,rfl⟩;refine fA.aC _ (λm hm=>?_) (λm hm y hy=>?_) _ hr;·simp at hm;omega
     ·rw[WS (by simp at hm;omega)];exact hy) he.1 (by simp;omega)
   have a3:pP (h2.set h'.length (some (.aA 3 [[ι x[i].aA,ι x[i].aC,r]] false))) 3 40 o (.aG h'.length 3 0 1 (some 1))=some (o',a4):=by rw[iR (uw hs (some 1) (len:=1) rfl)];exact ha
   simp only[go_sem,h0,h3,h4,e,pR U,hr.aA,gV hr.aA,u,a3];refine⟨_,?_,i+1,o',rfl,ς,ci,rfl,?_,a2,?_⟩;·omega
   ·have:x.take (i+1)=x.take i++[x[i]]:=by simp[ci]
    rw[this,gZ,XU];exact Z
   ·exact (he.tr (((fq.b1 none).tr I).aI (WX _) _)).aD a1 (λ_ _ x=>x) (λm hm hm'=>ω)
  ·simp at ci;simp only[go_sem,h3];obtain rfl:i=x.length:=ω;rw[XF]at ho;exact⟨ho,hc,he⟩
def xC (P:Program)(f:FuncId):Prop:=
 fZ P f=true/\∀(F:Nat->Prop)(h:fu)(x:fG)(a:List AV),fH F h x.c a->mS x.es->
  fO P f [.aF a] h λr h'=>∃cs,r=.aF cs/\fU x.c (λm=>h.length<=m) h' cs/\fq fB h h'
theorem KC (hf:Is P f (Bh g))(hg:sj P g):xC P f:=by
 refine⟨hf.2,λF h x a hx hl=>gy hf ?_⟩;simp only[fG.c,fH,Rd]at hx;obtain⟨_,_,rfl,rfl,_,_,rfl,rfl,d,_,rfl,hx,rfl⟩:=hx;simp only[Bh,go_sem,hx.aA];refine fK ⟨hg.1,hg.2 F _ x.es d (hx.up (fq.b2 _ _)) hl⟩ ?_;rintro r h2 ⟨hr,_,he⟩;have hA:=he.aA (kr _ _ _);have hB:=he.aA (jy _ _ _);have l1:=(WR.1 hA).1;have l2:=(WR.1 hB).1;simp only[go_sem,hA,hB,hr.aA,gV hr.aA,l1,l2,W4];refine⟨_,rfl,?_,?_⟩
 ·simp only[fG.c,fU,fA];refine⟨_,_,rfl,rfl,_,_,rfl,rfl,r,_,rfl,?_,rfl⟩;refine fA.aC _ (λm hm=>?_) (λm hm y hy=>?_) _ hr;·simp at hm;omega
  ·simp at hm;rw[WS ω,WS ω];exact hy
 ·exact (((fq.b2 _ _).tr he).aI (WX _) _).aI ω _
variable {P:Program}{f g:FuncId}
structure fF where
 aC:Int
 aE:Int
 to:Int
 aK:Int
 aD:Int
 aA:Int
 aH:Int
 aI:Int
 aM:Int
 aQ:Int
 aO:Int
 aN:Int
 aR:Int
 aP:Int
 ok:Bool
 es:List gw
 aG:List Int
 deriving DecidableEq
def fF.c (m:fF):List D:=[.aA .i64 m.aC,.aA .i64 m.aE,.aA .i64 m.to,.aA .i64 m.aK,.aA .i64 m.aD,.aA .i64 m.aA,.aA .i64 m.aH,.aA .i64 m.aI,.aA .i64 m.aM,.aA .i64 m.aQ,.aA .i64 m.aO,.aA .i64 m.aN,
 .aA .i64 m.aR,.aA .i64 m.aP,.aE m.ok,gZ m.es,gG m.aG]
def fF.aF (m:fF)(e d:AV):List AV:=[.aD .i64 m.aC,.aD .i64 m.aE,.aD .i64 m.to,.aD .i64 m.aK,.aD .i64 m.aD,.aD .i64 m.aA,.aD .i64 m.aH,.aD .i64 m.aI,.aD .i64 m.aM,.aD .i64 m.aQ,.aD .i64 m.aO,.aD .i64 m.aN,
 .aD .i64 m.aR,.aD .i64 m.aP,.aE m.ok,e,d]
theorem rT {F h k n ds a}:fH F h (.aA k n :: ds) a↔∃r,a=.aD k n :: r/\fH F h ds r:=by
 simp only[fH,Rd];constructor;·rintro⟨x,r,h1,h2,h3⟩;subst h2;exact⟨r,h1,h3⟩
 ·rintro⟨r,h1,h3⟩;exact⟨_,r,h1,rfl,h3⟩
theorem Jl {F h n ds a}:fH F h (.aE n :: ds) a↔∃r,a=.aE n :: r/\fH F h ds r:=by
 simp only[fH,Rd];constructor;·rintro⟨x,r,h1,h2,h3⟩;subst h2;exact⟨r,h1,h3⟩
 ·rintro⟨r,h1,h3⟩;exact⟨_,r,h1,rfl,h3⟩
theorem Jp {m:fF}{F:Nat->Prop}{h:fu}{a:List AV}(hh:fH F h m.c a):∃e d,a=m.aF e d/\Rd F h (gZ m.es) e/\Rd F h (gG m.aG) d:=by simp only[fF.c,rT,Jl]at hh;obtain⟨_,rfl,_,rfl,_,rfl,_,rfl,_,rfl,_,rfl,_,rfl,_,rfl,_,rfl,_,rfl,_,rfl,_,rfl,_,rfl,_,rfl,_,rfl,hh⟩:=hh;simp only[fH]at hh;obtain⟨e,_,rfl,he,d,_,rfl,hd,rfl⟩:=hh;exact⟨e,d,rfl,he,hd⟩
theorem D_ {m:fF}{F:Nat->Prop}{h:fu}{e d:AV}(he:Rd F h (gZ m.es) e)(hd:Rd F h (gG m.aG) d):fH F h m.c (m.aF e d):=by simp only[fF.c,fF.aF,rT,Jl];refine⟨_,rfl,_,rfl,_,rfl,_,rfl,_,rfl,_,rfl,_,rfl,_,rfl,_,rfl,_,rfl,_,rfl,_,rfl,_,rfl,_,rfl,_,rfl,?_⟩;simp only[fH];exact⟨e,_,rfl,he,d,_,rfl,hd,rfl⟩
def Af (P:Program)(f:FuncId):Prop:=
 fZ P f=true/\∀(F:Nat->Prop)(h:fu)(m:fF)(a:List AV),fH F h m.c a->mS m.es->m.aG.length<=2^40->
  fO P f [.aF a] h λr h'=>∃e d,r=.aF (m.aF e d)/\fA (gZ m.es) (λk=>h.length<=k) h' e/\fA (gG m.aG) (λk=>h.length<=k) h' d/\fq fB h h'
theorem KD {k:FuncId}(hf:Is P f (Bi g k))(hg:sj P g)(hk:pH P k .u8):Af P f:=by
 refine⟨hf.2,λF h m a hm hs hl=>gy hf ?_⟩;obtain⟨e,d,rfl,he,hd⟩:=Jp hm;simp only[Bi,fF.aF,go_sem,he.aA,hd.aA];refine fK ⟨hg.1,hg.2 F _ m.es _ (he.up (fq.b2 _ _)) hs⟩ ?_;rintro r h2 ⟨hr,_,x2⟩;have hA:=x2.aA (kr _ _ _);have hB:=x2.aA (jy _ _ _);have l1:=(WR.1 hA).1;have l2:=(WR.1 hB).1;simp only[go_sem,hA,hr.aA,gV hr.aA,l1];have x3:=((fq.b2 _ _).tr x2).aI (WX h.length) (some (.aA 17 [m.aF r d] false));have I:fA (gZ m.es) (λk=>h.length+2<=k) (h2.set h.length (some (.aA 17 [m.aF r d] false))) r:=
  fA.aC _ (λm hm=>by simp at hm;omega) (λm hm y hy=>by simp at hm;rw[WS ω];exact hy) _ hr
 have W:(h2.set h.length (some (.aA 17 [m.aF r d] false)))[h.length]?=_:=W0 l1;have E:(h2.set h.length (some (.aA 17 [m.aF r d] false)))[h.length+1]?=_:=(WS ω).trans hB;simp only[fF.aF]at x3 I W E;generalize h2.set h.length (some (.aA 17 [[ι m.aC,ι m.aE,ι m.to,ι m.aK,ι m.aD,ι m.aA,ι m.aH,ι m.aI,ι m.aM,ι m.aQ,ι m.aO,ι m.aN,
  ι m.aR,ι m.aP,.aE m.ok,r,d]] false))=h3 at *
 refine fK ⟨hk.1,hk.2 F _ m.aG _ (hd.up x3) hl⟩ ?_;rintro s h4 ⟨u,_,x4⟩;have U:=x4.aA W;have O:=x4.aA E;have l3:=(WR.1 U).1;have l4:=(WR.1 O).1;have Z:=I.up x4;have l0:=x3.1;have l5:=(WR.1 E).1;simp only[go_sem,U,O,hr.aA,u.aA,gV u.aA,l3,l4,W4];refine⟨r,s,rfl,?_,?_,((x3.tr x4).aI (WX _) _).aI ω _⟩;·exact fA.aC _ (λm hm=>ω) (λm hm y hy=>by rw[WS ω,WS ω];exact hy) _ Z
 ·exact fA.aC _ (λm hm=>ω) (λm hm y hy=>by rw[WS ω,WS ω];exact hy) _ u
end Glb
