/-
  A library of its own.
-/
import Derived.Test.YtdeiamnhnfmilaaGreatGlbKitA
set_option linter.unusedSimpArgs false
set_option linter.unusedVariables false
set_option maxRecDepth 10000
namespace Glb
open Go
variable {P:Program}{f g k:FuncId}
def kh (l:fG):Prop:=0<=l.aA/\l.aA<=2^41/\mS l.es
def fG.aC (l:fG):Int:=l.aA+l.es.length
def fG.aL (l:fG):Int:=match l.es[l.es.length-1]? with
 | some e=>e.aA
 | none=>l.aD
def fG.aF (l:fG)(i:Int):Bool:=decide (l.aA<=i) && decide (i<=l.aC)
def fG.aJ (l:fG)(i:Int):Int:=if l.aF i then (if i=l.aA then l.aD else match l.es[(i-l.aA-1).toNat]? with
 | some e=>e.aA
 | none=>0) else 0
def mR (P:Program)(f:FuncId):Prop:=
 fZ P f=true/\∀(F:Nat->Prop)(h:fu)(l:fG)(a:List AV),fH F h l.c a->kh l->
  fO P f [.aF a] h λr h'=>r=.aI [.aD .i64 l.aC,.aD .i64 l.aL]/\h'=h
theorem TU (hf:Is P f C7):mR P f:=by
 refine⟨hf.2,λF h l a hl ok=>kx (J9 (zQ _ _ _) (zQ _ _ _)) (gy hf ?_)⟩;simp only[fG.c,fH,Rd]at hl;obtain⟨_,_,rfl,rfl,_,_,rfl,rfl,d,_,rfl,hl,rfl⟩:=hl;have ll:=hl.aC;simp only[Xd]at ll;obtain⟨o1,o2,o3,o4⟩:=ok;simp only[C7,go_sem,hl.aA,ll];refine iQ (λc=>?_) (λc=>?_)
 ·simp at c;have e1:IntKind.i64.wrap (l.aA+↑l.es.length)=l.aA+↑l.es.length:=gF ω;have e2:IntKind.i64.wrap ((l.es.length:Int)-1)=(l.es.length:Int)-1:=gF ω;have hlt:l.es.length-1<l.es.length:=by first | omega | (have:=List.length_pos_iff.2 c;omega)
  have ht:((l.es.length:Int)-1).toNat=l.es.length-1:=ω;obtain⟨p,cs,hp,u,E⟩:=hl.aD .i64 (i:=(l.es.length:Int)-1) (d:=(l.es[l.es.length-1]).c) ω (by rw[ht];simp[hlt]);simp only[gw.c,fH,Rd]at E;obtain⟨_,_,rfl,rfl,_,_,rfl,rfl,d',_,rfl,_,rfl⟩:=E;have e:=tJ u (fq.b1 (some (.aA 3 [[ι l.aA,ι l.aD,d]] false)));simp only[go_sem,e1,e2,hp,oW u,pR e];refine⟨?_,fq.b1 _⟩;simp[fG.aC,fG.aL,hlt]
 ·simp at c;simp only[go_sem];refine⟨?_,fq.b1 _⟩;simp[fG.aC,fG.aL,c]
def pO (P:Program)(f:FuncId):Prop:=
 fZ P f=true/\∀(F:Nat->Prop)(h:fu)(l:fG)(a:List AV)(i:Int),fH F h l.c a->kh l->
  fO P f [.aF a,.aD .i64 i] h λr h'=>r=.aI [.aD .i64 (l.aJ i),.aE (l.aF i)]/\h'=h
theorem TX (hf:Is P f (C_ g))(hg:mR P g):pO P f:=by
 refine⟨hf.2,λF h l a i hl ok=>kx (J9 (zQ _ _ _) (tO _ _)) (gy hf ?_)⟩;have O:=hl;simp only[fG.c,fH,Rd]at hl;obtain⟨_,_,rfl,rfl,_,_,rfl,rfl,d,_,rfl,hl,rfl⟩:=hl;have I:=ok;obtain⟨o1,o2,o3,o4⟩:=ok;simp only[C_,go_sem,hl.aA];refine fK ⟨hg.1,hg.2 F _ l _ (O.up (fq.b1 _)) I⟩ ?_;rintro _ _ ⟨rfl,rfl⟩;have hlast:l.aC=l.aA+l.es.length:=rfl;by_cases h1:i<l.aA
 ·have c1:decide (i<l.aA)=true:=WZ h1;have hh:l.aF i=false:=by simp[fG.aF];omega
  simp only[go_sem,c1,fG.aJ,hh];exact fq.b1 _
 have c1:decide (i<l.aA)=false:=WV h1;by_cases h2:l.aC<i
 ·have c2:decide (l.aC<i)=true:=WZ h2;have hh:l.aF i=false:=by simp[fG.aF];omega
  simp only[go_sem,c1,c2,fG.aJ,hh];exact fq.b1 _
 have c2:decide (l.aC<i)=false:=WV h2;have hh:l.aF i=true:=by simp[fG.aF];omega
 by_cases h3:i=l.aA
 ·have c3:decide (i=l.aA)=true:=WZ h3;simp only[go_sem,c1,c2,c3,fG.aJ,hh];refine⟨?_,fq.b1 _⟩;rw[WW h3]
 have c3:decide (i=l.aA)=false:=WV h3;have hlt:(i-l.aA-1).toNat<l.es.length:=ω;have e1:IntKind.i64.wrap (i-l.aA)=i-l.aA:=gF ω;have e2:IntKind.i64.wrap (i-l.aA-1)=i-l.aA-1:=gF ω;obtain⟨p,cs,hp,u,E⟩:=hl.aD .i64 (i:=i-l.aA-1) (d:=(l.es[(i-l.aA-1).toNat]).c) ω (by rw[XR,WU hlt];rfl);simp only[gw.c,fH,Rd]at E;obtain⟨_,_,rfl,rfl,_,_,rfl,rfl,d',_,rfl,_,rfl⟩:=E;have e:=tJ u (fq.b1 (some (.aA 3 [[ι l.aA,ι l.aD,d]] false)));simp only[go_sem,c1,c2,c3,e1,e2,hp,oW u,pR e,fG.aJ,hh];refine⟨?_,fq.b1 _⟩;rw[WY h3,WU hlt]
def fG.aM (l:fG)(index term:Int):Bool:=decide (l.aL<term) || (decide (term=l.aL) && decide (l.aC<=index))
def Av (P:Program)(f:FuncId):Prop:=
 fZ P f=true/\∀(F:Nat->Prop)(h:fu)(l:fG)(a:List AV)(i t:Int),fH F h l.c a->kh l->
  fO P f [.aF a,.aD .i64 i,.aD .i64 t] h λr h'=>r=.aE (l.aM i t)/\h'=h
theorem TV (hf : Is P f (C8 g)) (hg : mR P g) : Av P f := by
 refine ⟨hf.2, λF h l a i t hl ok => kx (tO _ _) (gy hf ?_)⟩;have e := hl;simp only [fG.c, fH, Rd] at hl;obtain ⟨_, _, rfl, rfl, _, _, rfl, rfl, d, _, rfl, hl, rfl⟩ := hl;simp only [C8, go_sem, hl.aA];refine fK ⟨hg.1, hg.2 F _ l _ (e.up (fq.b1 _)) ok⟩ ?_;rintro _ _ ⟨rfl, rfl⟩;simp only [go_sem];repeat' (first
  | refine vB (λ_ => ?_) (λ_ => ?_)
  | refine Kg (λ_ => ?_) (λ_ => ?_)
  | refine iQ (λ_ => ?_) (λ_ => ?_)
  | simp only [go_sem, *])
 all_goals refine ⟨?_, fq.b1 _⟩
 all_goals simp_all [fG.aM]
theorem zF (hf:Is P f Da):sj P f:=by
 refine⟨hf.2,λF h x a hx hl=>gy hf ?_⟩;have lx:=hx.aC;simp only[Xd]at lx;have hl1:=hl.1;simp only[Da,go_sem,lx];refine iP (λm L h'=>∃(i:Nat)(o:AV),lk 6 L=a/\lk 7 L=ι x.length/\lk 3 L=o/\lk 8 L=ι i/\i<=x.length/\m=x.length-i /\
  fA (gZ (x.take i)) (λm=>h.length<=m) h' o/\ic h' o/\fq fB h h') x.length ?_ ?_
 ·exact⟨0,_,by simp[fE],by simp[fE],by simp[fE],by simp[fE],ω,ω,fA.aD 3,Xb,fq.aC _ _⟩
 ·rintro m L h' ⟨i,o,h6,h7,h3,h8,hi,rfl,ho,hc,he⟩;simp only[Hg,go_sem,h7,h8];refine iQ (λci=>?_) (λci=>?_)
  ·simp at ci;obtain⟨p,cs,hp,a2,O⟩:=(hx.up he).aD .i64 (i:=i) (d:=x[i].c) ω (by simp[ci]);simp only[gw.c,fH,Rd]at O;obtain⟨_,_,rfl,rfl,_,_,rfl,rfl,d,_,rfl,hd,rfl⟩:=O;have I:Rd F h' (gG x[i].aD) d:=hd;have e:IntKind.i64.wrap (↑i+1)=(i:Int)+1:=gF ω;generalize hA:(some (.aA 3 [[ι x[i].aA,ι x[i].aC,d]] false):Option fC)=A;obtain⟨ys,W,Z⟩:=(I.up (fq.b2 A (some (.aA 1 [] false)))).aH;obtain⟨r,h2,ha,hr,_,E⟩:=nW (lo:=h'.length+1) (sz:=1) (bytes:=1) (ds:=[]) (h0:=h'++[A]++[some (.aA 1 [] false)]) (h:=h'++[A]++[some (.aA 1 [] false)]) (av:=.aG (h'.length+1) 1 0 0 (some 0))
    (by simp only[fA];exact .inr (.inr ⟨h'.length+1,0,some 0,[],false,rfl,WX _,jy _ _ _,ς,(λc hc=>by cases hc;simp),by simp[fQ]⟩))
    ⟨[],false,jy _ _ _,(λhc=>by cases hc),(λc hc=>by cases hc;simp)⟩ (fq.aC _ _) (RB Z) ς (by have:=hl.2 x[i] ς;simp;omega)
   have a8:pP (h'++[A]++[some (.aA 1 [] false)]) 1 1 (.aG (h'.length+1) 1 0 0 (some 0)) d=some (r,h2):=by rw[iR W];exact ha
   have U:h2[h'.length]?=some A:=by rw[E.2 h'.length ς ς];exact kr _ _ _
   have l2:=(WR.1 U).1;subst hA;simp only[go_sem,h6,h3,h8,hp,jN a2,I.aA,a8,U,hr.aA,gV hr.aA,l2];have eB:fq fB h' (h2.set h'.length (some (.aA 3 [[ι x[i].aA,ι x[i].aC,r]] false))):=
    ((fq.b2 _ _).aJ E (λm hm a4=>ω)).aI (WX _) _
   have a1:fA (gG x[i].aD) (λm=>h'.length+1<=m) (h2.set h'.length (some (.aA 3 [[ι x[i].aA,ι x[i].aC,r]] false))) r:=
    fA.aC _ (λm hm=>hm) (λm hm y hy=>by rw[WS ω];exact hy) _ (by simpa [gG] using hr)
   generalize hB:h2.set h'.length (some (.aA 3 [[ι x[i].aA,ι x[i].aC,r]] false))=B at *;obtain⟨o',h3',a7,a3,a6,a5⟩:=nW (bytes:=40) (es:=[x[i].c]) (h:=B++[some (.aA 3 [[ι x[i].aA,ι x[i].aC,r]] false)]) ho hc
    (eB.aM _) (ys:=[[ι x[i].aA,ι x[i].aC,r]])
    (by simp only[fQ,fU,gw.c,fA];refine⟨_,_,rfl,⟨_,_,rfl,rfl,_,_,rfl,rfl,r,_,rfl,?_,rfl⟩,rfl⟩;exact fA.aC _ (λm hm=>ω) (λm hm y hy=>(fq.b1 _).aA hy) _ a1) he.1 (by simp;omega)
   have u:=iR (mH B 3 [[ι x[i].aA,ι x[i].aC,r]] false (some 1) (len:=1) rfl) 40 o;rw[a7]at u;simp only[go_sem,h6,h7,h3,h8,e,u];refine⟨_,?_,i+1,o',rfl,ς,ci,rfl,?_,a6,?_⟩;·omega
   ·have:x.take (i+1)=x.take i++[x[i]]:=by simp[ci]
    rw[this,gZ,XU];exact a3
   ·exact (he.tr (eB.aM _)).aJ a5 (λm hm a4=>ω)
  ·simp at ci;simp only[go_sem,h3];obtain rfl:i=x.length:=ω;rw[XF]at ho;exact⟨ho,hc,he⟩
def fG.aH (l:fG)(from_ most:Int):List gw:=
 if from_<=l.aA\/l.aC<from_\/most<1 then [] else (l.es.drop (from_-l.aA-1).toNat).take most.toNat
def oT (P:Program)(f:FuncId):Prop:=
 fZ P f=true/\∀(F:Nat->Prop)(h:fu)(l:fG)(a:List AV)(i n:Int),fH F h l.c a->kh l->
  fO P f [.aF a,.aD .i64 i,.aD .i64 n] h λr h'=>fA (gZ (l.aH i n)) (λm=>h.length<=m) h' r/\ic h' r/\fq fB h h'
theorem mS.aA {l l':List gw}(hl:mS l)(hn:l'.length<=l.length)(hs:∀e∈l',e∈l):mS l':=⟨Xg hn hl.1,λe he=>hl.2 e (hs e he)⟩
theorem TW (hf:Is P f (C9 g k))(hg:mR P g)(hk:sj P k):oT P f:=by
 refine⟨hf.2,λF h l a i n hl ok=>gy hf ?_⟩;have W:=hl;simp only[fG.c,fH,Rd]at hl;obtain⟨_,_,rfl,rfl,_,_,rfl,rfl,d,_,rfl,hl,rfl⟩:=hl;have I:=ok;obtain⟨o1,o2,o3⟩:=ok;have o4:=o3.1;simp only[C9,go_sem,hl.aA];refine fK ⟨hg.1,hg.2 F _ l _ (W.up (fq.b1 _)) I⟩ ?_;rintro _ _ ⟨rfl,rfl⟩;have hlast:l.aC=l.aA+l.es.length:=rfl;by_cases h1:i<=l.aA;·have c1:decide (i<=l.aA)=true:=WZ h1;simp only[go_sem,fG.aH,h1];exact⟨fA.aD 3,Xb,fq.b1 _⟩
 have c1:decide (i<=l.aA)=false:=WV h1;by_cases h2:l.aC<i;·have c2:decide (l.aC<i)=true:=WZ h2;simp only[go_sem,c1,fG.aH,h2];exact⟨fA.aD 3,Xb,fq.b1 _⟩
 have c2:decide (l.aC<i)=false:=WV h2;by_cases h3:n<1;·have c3:decide (n<1)=true:=WZ h3;simp only[go_sem,c1,c2,fG.aH,h3];exact⟨fA.aD 3,Xb,fq.b1 _⟩
 have c3:decide (n<1)=false:=WV h3;have e1:IntKind.i64.wrap (i-l.aA)=i-l.aA:=gF ω;have e2:IntKind.i64.wrap (i-l.aA-1)=i-l.aA-1:=gF ω;obtain⟨q,hq,E⟩:=hl.aJ (lo:=some (i-l.aA-1)) (hi:=none) (mx:=none) (by simp;omega) (by simp;omega) ς ς ς ς;simp only[XJ,Yo,Yj,XF]at E;have lq:=E.aC;simp only[Xk,Xd]at lq;obtain⟨q2,U,u⟩:=E.aJ (lo:=none) (hi:=some (min n (↑(l.es.length-(i-l.aA-1).toNat):Int))) (mx:=none) ς (by simp;omega) (by simp;omega) ς (by simp;omega) ς;simp only[XJ,Yo,Int.toNat_zero,Yt]at u;simp only[go_sem,c1,c2,c3,e1,e2,Jx,hq,lq,tL,uZ,U];have hs:l.aH i n=(l.es.drop (i-l.aA-1).toNat).take (min n ↑(l.es.length-(i-l.aA-1).toNat)).toNat:=by simp only[fG.aH];rw[WY ω,List.take_eq_take_iff];simp only[Xk];omega
 have O:Rd F h (gZ (l.aH i n)) q2:=by rw[hs,gZ,YX,Zq];exact u
 refine fK ⟨hk.1,hk.2 F _ (l.aH i n) q2 (O.up (fq.b1 _)) (o3.aA (by rw[hs];simp;omega) (λe he=>by rw[hs]at he;exact Xw (XQ he)))⟩ ?_;rintro r h' ⟨hr,hc,he⟩;simp only[go_sem];exact⟨fA.aC _ (λm hm=>by simp at hm;omega) (λ_ _ _ x=>x) _ hr,hc,(fq.b1 _).tr he⟩
variable {P:Program}{f g k:FuncId}
def fG.aG (l:fG):Int->List gw->Nat
 | _,[]=>0
 | at_,e :: r=>if (l.aF at_ && decide (l.aJ at_=e.aA))=true then l.aG (at_+1) r+1 else 0
theorem yg (l : fG) : ∀ (e : List gw) (i : Int), l.aG i e <= e.length := by
  intro e;induction e with
  | nil => intro i; simp [fG.aG]
  | cons x r ih => intro i; simp only [fG.aG]; split
                   · have := ih (i + 1); simp; omega
                   · simp
theorem Gg (l:fG):∀(e:List gw)(i:Int)(k:Nat),k<=e.length->(∀(j:Nat)(hj:j<e.length),j<k->(l.aF (i+j) && decide (l.aJ (i+j)=e[j].aA))=true)->
  (∀hk:k<e.length,(l.aF (i+k) && decide (l.aJ (i+k)=e[k].aA))=false)->l.aG i e=k:=by
 intro e;induction e with
 | nil=>intro i k hk _ _;simp at hk;subst hk;rfl
 | cons x r ih=>
  intro i k hk h1 h2;cases k with
  | zero=>have:=h2 ς;simp only[fG.aG];simp at this ⊢;exact this
  | succ k=>
   have h0:=h1 0 ς ω;simp only[fG.aG];simp only[Zt,Int.add_zero,YB]at h0;rw[WW h0,ih (i+1) k (by simpa using hk)];·intro j hj hj';have:=h1 (j+1) (by simpa using hj) ω;simp only[List.getElem_cons_succ]at this;rw[show i+1+(j:Int)=i+((j+1:Nat):Int) by omega];exact this
   ·intro u;have:=h2 (by simpa using u);simp only[List.getElem_cons_succ]at this;rw[show i+1+(k:Int)=i+((k+1:Nat):Int) by omega];exact this
def fG.aE (l:fG)(prev:Int)(e:List gw):fG:=
 if l.aF prev=true/\l.aG (prev+1) e<e.length then ⟨l.aA,l.aD,l.es.take (prev+l.aG (prev+1) e-l.aA).toNat++e.drop (l.aG (prev+1) e)⟩ else l
def fG.aI (l:fG)(prev:Int)(e:List gw):Int:=
 if l.aF prev=true/\l.aG (prev+1) e<e.length then prev+1+l.aG (prev+1) e else 0
def xr (P:Program)(f:FuncId):Prop:=
 fZ P f=true/\∀(F:Nat->Prop)(h:fu)(l:fG)(a:List AV)(prev:Int)(e:List gw)(b:AV),fH F h l.c a->Rd F h (gZ e) b->kh l->mS e->
  fO P f [.aF a,.aD .i64 prev,b] h λr h'=>∃cs,r=.aI [.aF cs,.aD .i64 (l.aI prev e)]/\fU (l.aE prev e).c (λm=>h.length<=m) h' cs/\fq fB h h'
theorem TT {t:FuncId}(hf:Is P f (CY g k t))(hg:mR P g)(hk:sj P k)(ht:pO P t):xr P f:=by
 refine⟨hf.2,λF h l a prev e b hl hb ok a9=>gy hf ?_⟩;have au:=hl;simp only[fG.c,fH,Rd]at hl;obtain⟨_,_,rfl,rfl,_,_,rfl,rfl,d,_,rfl,hl,rfl⟩:=hl;have aa:=ok;obtain⟨o1,o2,o3⟩:=ok;have o4:=o3.1;have lb:=hb.aC;simp only[Xd]at lb;have hlast:l.aC=l.aA+l.es.length:=rfl;simp only[CY,go_sem,hl.aA];refine fK ⟨hg.1,hg.2 F _ l _ (au.up (fq.b2 _ _)) aa⟩ ?_;rintro _ _ ⟨rfl,rfl⟩;simp only[go_sem];refine fK ⟨hk.1,hk.2 F _ l.es d (hl.up (fq.b2 _ _)) o3⟩ ?_;rintro r h2 ⟨hr,an,he⟩;have hA:=he.aA (kr _ _ _);have hB:=he.aA (jy _ _ _);have l1:=(WR.1 hA).1;have l2:=(WR.1 hB).1;simp only[go_sem,hA,hr.aA,gV hr.aA,l1];have O:fq fB h (h2.set h.length (some (.aA 3 [[.aD .i64 l.aA,.aD .i64 l.aD,r]] false))):=((fq.b2 _ _).tr he).aI (WX _) _;have u:fA (gZ l.es) (λm=>h.length+2<=m) (h2.set h.length (some (.aA 3 [[.aD .i64 l.aA,.aD .i64 l.aD,r]] false))) r:=
  fA.aC _ (λm hm=>by simp at hm;omega) (λm hm y hy=>by simp at hm;rw[WS ω];exact hy) _ hr
 have hc3:ic (h2.set h.length (some (.aA 3 [[.aD .i64 l.aA,.aD .i64 l.aD,r]] false))) r:=
  an.aA hr (λm hm y hy=>by simp at hm;rw[WS ω];exact hy)
 have I:(h2.set h.length (some (.aA 3 [[.aD .i64 l.aA,.aD .i64 l.aD,r]] false)))[h.length]?=some (some (.aA 3 [[.aD .i64 l.aA,.aD .i64 l.aD,r]] false)):=W0 l1;have W:(h2.set h.length (some (.aA 3 [[.aD .i64 l.aA,.aD .i64 l.aD,r]] false)))[h.length+1]?=some (some (.aA 3 [[.aD .i64 0,.aD .i64 0,.aC]] false)):=by rw[WS ω];exact hB
 generalize h2.set h.length (some (.aA 3 [[.aD .i64 l.aA,.aD .i64 l.aD,r]] false))=h3 at *;have l13:=(WR.1 I).1;have a3:=(WR.1 W).1;have am:fH (λm=>h.length+2<=m) h3 l.c [.aD .i64 l.aA,.aD .i64 l.aD,r]:=by simp only[fG.c,fH,Rd];exact⟨_,_,rfl,rfl,_,_,rfl,rfl,_,_,rfl,fA.rd _ (λ_ x=>x) _ u,rfl⟩
 have stay:l.aE prev e=l->fA (gZ l.es) (λm=>h.length+2<=m) h3 r->fU (l.aE prev e).c (λm=>h.length<=m) (h3.set (h.length+1) (some (.aA 3 [[.aD .i64 l.aA,.aD .i64 l.aD,r]] false))) [.aD .i64 l.aA,.aD .i64 l.aD,r]:=by intro e1 e2;rw[e1];simp only[fG.c,fU,fA];exact⟨_,_,rfl,rfl,_,_,rfl,rfl,_,_,rfl,fA.aC _ (λm hm=>ω) (λm hm y hy=>by rw[WS ω];exact hy) _ e2,rfl⟩
 by_cases h1:prev<l.aA
 ·have hh:l.aF prev=false:=by simp[fG.aF];omega
  simp only[go_sem,WZ h1,I,W,u.aA,a3];have e1:l.aE prev e=l:=by simp[fG.aE,hh]
  have e2:l.aI prev e=0:=by simp[fG.aI,hh]
  rw[e2];exact⟨_,rfl,stay e1 u,O.aI ω _⟩
 by_cases h2:l.aC<prev
 ·have hh:l.aF prev=false:=by simp[fG.aF];omega
  simp only[go_sem,WV h1,WZ h2,I,W,u.aA,a3];have e1:l.aE prev e=l:=by simp[fG.aE,hh]
  have e2:l.aI prev e=0:=by simp[fG.aI,hh]
  rw[e2];exact⟨_,rfl,stay e1 u,O.aI ω _⟩
 have hh:l.aF prev=true:=by simp[fG.aF];omega
 have oe:=a9.1;simp only[go_sem,WV h1,WV h2,lb];refine iP (λm L h'=>∃i:Nat,lk 1 L=.aD .i64 prev/\lk 2 L=b/\lk 3 L=.aA h.length 3 0 0/\lk 6 L=.aA (h.length+1) 3 0 0/\lk 35 L=.aD .i64 e.length/\lk 36 L=.aD .i64 i/\h'=h3/\i<=e.length/\m=e.length-i /\
  ∀(j:Nat)(hj:j<e.length),j<i->(l.aF (prev+1+j) && decide (l.aJ (prev+1+j)=e[j].aA))=true) e.length ?_ ?_
 ·exact⟨0,by simp[fE,iw],by simp[fE,iw],by simp[fE],by simp[fE],by simp[fE],by simp[fE],rfl,ω,ω,ω⟩
 ·rintro m L h' ⟨i,k1,k2,k3,k6,ab,a4,rfl,hi,rfl,hj⟩;have ae:Rd F h' (gZ e) b:=hb.up O;simp only[Hf,go_sem,ab,a4];by_cases hc:i<e.length
  ·have c1:decide ((i:Int)<e.length)=true:=WZ ω;have e1:IntKind.i64.wrap (prev+1)=prev+1:=gF ω;have e2:IntKind.i64.wrap (prev+1+↑i)=prev+1+↑i:=gF ω;have e3:IntKind.i64.wrap (↑i+1)=(i:Int)+1:=gF ω;simp only[go_sem,k1,k3,a4,c1,e1,e2,I];refine fK ⟨ht.1,ht.2 _ _ l _ (prev+1+↑i) am aa⟩ ?_;rintro _ _ ⟨rfl,rfl⟩;obtain⟨p,cs,hp,Z,ac⟩:=ae.aD .i64 (i:=(i:Int)) (d:=(e[i]).c) ω (by rw[Yj,XR,WU hc];rfl);simp only[gw.c,fH,Rd]at ac;obtain⟨_,_,rfl,rfl,_,_,rfl,rfl,d',_,rfl,_,rfl⟩:=ac;by_cases hm:(l.aF (prev+1+i) && decide (l.aJ (prev+1+i)=e[i].aA))=true
   ·have a1:=hm;rw[Xs]at a1;simp only[go_sem,k1,k2,k3,k6,ab,a4,a1.1,a1.2,hp,oW Z,pR Z,e3];refine⟨_,?_,i+1,ς,hc,rfl,λj aw hj2=>?_⟩;·omega
    ·rcases YQ j i with hlt | hge;·exact hj j aw hlt
     ·obtain rfl:j=i:=ω;exact hm
   ·have a7:l.aG (prev+1) e=i:=Gg l e (prev+1) i hi hj (λ_=>by simpa using hm);have hpi:prev+i<=l.aC:=by
     rcases Nat.eq_zero_or_pos i with h0 | h0;·omega
     ·have:=hj (i-1) ω ω;simp only[fG.aF,Xs,XK]at this;omega
    have e4:IntKind.i64.wrap (prev+1+↑i-l.aA)=prev+1+↑i-l.aA:=gF ω;have e5:IntKind.i64.wrap (prev+1+↑i-l.aA-1)=prev+1+↑i-l.aA-1:=gF ω;obtain⟨q,hq,ap,aq⟩:=u_ u (k:=prev+1+↑i-l.aA-1) ω (by simp;omega);obtain⟨q2,ar,E⟩:=ae.aJ (lo:=some (i:Int)) (hi:=none) (mx:=none) ς (by simp;omega) ς ς ς ς;simp only[XJ,Yo,Yj,XF]at E;rw[<-Zq]at E;have hx:l.aF (prev+1+↑i)=false\/(l.aF (prev+1+↑i)=true/\decide (l.aJ (prev+1+↑i)=e[i].aA)=false):=by
     cases ax:l.aF (prev+1+↑i);·exact .inl rfl
     ·rw[ax,ZI]at hm;exact .inr ⟨rfl,by simpa using hm⟩
    rcases hx with hx | hx;all_goals
     simp only[go_sem,k2,k3,hx,hp,oW Z,pR Z,I,e4,e5,hq,ar];refine fK ⟨hk.1,hk.2 F _ (e.drop i) q2 E (a9.aA ς (λx hx=>Xw hx))⟩ ?_;rintro r2 h4 ⟨ao,_,a2⟩;obtain⟨ys,ak,al⟩:=ao.aE;obtain⟨r5,h5,ay,a5,_,a6⟩:=nW (bytes:=40) ap aq a2 al ω (by simp;omega);have U:=iR ak 40 q;rw[ay]at U;have a8:=a2.aA I;have ah:h5[h.length]?=some (some (.aA 3 [[.aD .i64 l.aA,.aD .i64 l.aD,r]] false)):=by rw[a6.2 _ (WR.1 a8).1 ω];exact a8
     have ag:=a2.aA W;have af:h5[h.length+1]?=some (some (.aA 3 [[.aD .i64 0,.aD .i64 0,.aC]] false)):=by rw[a6.2 _ (WR.1 ag).1 ω];exact ag
     have aj:=(WR.1 ah).1;have ai:=(WR.1 af).1;simp only[go_sem,k3,k6,a8,U,ah,af,a5.aA,gV a5.aA,aj,ai,W4];have el:l.aE prev e=⟨l.aA,l.aD,l.es.take (prev+1+↑i-l.aA-1).toNat++e.drop i⟩:=by simp only[fG.aE,a7];rw[WW ⟨hh,hc⟩];congr 3;omega
     have b0:l.aI prev e=prev+1+↑i:=by simp only[fG.aI,a7];rw[WW ⟨hh,hc⟩]
     rw[b0,el];refine⟨_,rfl,?_,?_⟩;·simp only[fG.c,fU,fA];refine⟨_,_,rfl,rfl,_,_,rfl,rfl,r5,_,rfl,?_,rfl⟩;rw[gZ,XU,YX];exact fA.aC _ (λm hm=>ω) (λm hm y hy=>by rw[WS ω,WS ω];exact hy) _ a5
     ·exact (((O.tr a2).aJ a6 (λm hm a1=>ω)).aI ω _).aI ω _
  ·have c1:decide ((i:Int)<e.length)=false:=WV ω;simp only[go_sem,k3,k6,c1,I,W,u.aA,a3];have a7:l.aG (prev+1) e=i:=Gg l e (prev+1) i hi hj (λhk=>absurd hk hc);have e1:l.aE prev e=l:=by simp only[fG.aE];rw[WY ω]
   have e2:l.aI prev e=0:=by simp only[fG.aI];rw[WY ω]
   rw[e2];exact⟨_,rfl,stay e1 u,O.aI ω _⟩
variable {P:Program}{f g k:FuncId}
def fG.aK (l:fG)(b:Int):fG:=if l.aF b then ⟨b,l.aJ b,l.es.drop (b-l.aA).toNat⟩ else ⟨0,0,[]⟩
def vJ (P:Program)(f:FuncId):Prop:=
 fZ P f=true/\∀(F:Nat->Prop)(h:fu)(l:fG)(a:List AV)(i:Int),fH F h l.c a->kh l->
  fO P f [.aF a,.aD .i64 i] h λr h'=>∃cs,r=.aI [.aF cs,.aD .i64 (if l.aF i then 0 else 3)]/\fU (l.aK i).c (λm=>h.length<=m) h' cs/\fq fB h h'
theorem JB {t:FuncId}(hf:Is P f (CZ t k))(ht:pO P t)(hk:sj P k):vJ P f:=by
 refine⟨hf.2,λF h l a i hl ok=>gy hf ?_⟩;have E:=hl;simp only[fG.c,fH,Rd]at hl;obtain⟨_,_,rfl,rfl,_,_,rfl,rfl,d,_,rfl,hl,rfl⟩:=hl;have u:=ok;obtain⟨o1,o2,o3⟩:=ok;have o4:=o3.1;have hlast:l.aC=l.aA+l.es.length:=rfl;simp only[CZ,go_sem,hl.aA];refine fK ⟨ht.1,ht.2 F _ l _ i (E.up (fq.b2 _ _)) u⟩ ?_;rintro _ _ ⟨rfl,rfl⟩;cases hh:l.aF i;·simp only[go_sem];refine⟨_,rfl,?_,fq.b2 _ _⟩;simp only[fG.aK,hh,fG.c,fU,fA];exact⟨_,_,rfl,rfl,_,_,rfl,rfl,_,_,rfl,fA.aD 3,rfl⟩
 ·have hi:l.aA<=i/\i<=l.aC:=by simpa [fG.aF] using hh
  have e1:IntKind.i64.wrap (i-l.aA)=i-l.aA:=gF ω;obtain⟨q,hq,e⟩:=hl.aJ (lo:=some (i-l.aA)) (hi:=none) (mx:=none) (by simp;omega) (by simp;omega) ς ς ς ς;simp only[XJ,Yo,Yj,XF]at e;rw[<-Zq]at e;simp only[go_sem,e1,hq];refine fK ⟨hk.1,hk.2 F _ (l.es.drop (i-l.aA).toNat) q (Rd.up e (fq.b2 _ _)) (o3.aA ς (λx hx=>Xw hx))⟩ ?_;rintro r h2 ⟨hr,_,he⟩;have hB:=he.aA (jy _ _ _);have l2:=(WR.1 hB).1;simp only[go_sem,hB,hr.aA,gV hr.aA,l2];refine⟨_,rfl,?_,((fq.b2 _ _).tr he).aI ω _⟩;simp only[fG.aK,hh,fG.c,fU,fA];refine⟨_,_,rfl,rfl,_,_,rfl,rfl,r,_,rfl,?_,rfl⟩;exact fA.aC _ (λm hm=>by simp at hm;omega) (λm hm y hy=>by simp at hm;rw[WS ω];exact hy) _ hr
end Glb
