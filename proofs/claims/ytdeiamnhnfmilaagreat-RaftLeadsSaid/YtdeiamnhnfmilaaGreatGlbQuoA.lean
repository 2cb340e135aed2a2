/-
  A library of its own.
-/
import Derived.Test.YtdeiamnhnfmilaaGreatGlbKitB
set_option linter.unusedSimpArgs false
set_option linter.unusedVariables false
set_option maxRecDepth 10000
set_option maxHeartbeats 4000000
open Nat (reduceAdd reduceEqDiff)
namespace Glb
open Go
variable {P:Program}{f g:FuncId}
theorem Rd.aG {F:Nat->Prop}{h:fu}{l:List Int}{a:AV}(hx:Rd F h (f_ l) a){i:Nat}(hi:i<l.length):
  ∃p,jq 1 a (.aD .i64 i)=some p/\iK h false 1 p=some (.aD .i64 l[i]):=by
 obtain⟨p,cs,hp,u,e⟩:=hx.aD .i64 (i:=i) (d:=[.aA .i64 l[i]]) ω (by simp[hi]);simp only[fH,Rd]at e;obtain⟨_,_,rfl,rfl,rfl⟩:=e;exact⟨p,hp,by rw[jN u];exact zN _ _ _⟩
theorem Rd.aF {F:Nat->Prop}{h:fu}{l:List Int}{a:AV}(hx:Rd F h (f_ l) a):iJ a=some (ι l.length):=by simpa using hx.aC
def rN (n:Int):List Int->Nat->Int
 | [],_=>-1
 | x :: r,k=>if n=x then k else rN n r (k+1)
theorem Ow (n:Int):∀(l:List Int)(k:Nat),decide (0<=rN n l k)=decide (n∈l):=by
 intro l;induction l with
 | nil=>intro k;simp[rN]
 | cons x r ih=>
  intro k;simp only[rN];split;·rename_i e;subst e;simp
  ·rename_i e;rw[ih];simp[e]
def FD (P:Program)(f:FuncId):Prop:=
 fZ P f=true/\∀(F:Nat->Prop)(h:fu)(l:List Int)(a:AV)(n:Int),Rd F h (f_ l) a->l.length<=2^40->fO P f [a,.aD .i64 n] h λr h'=>r=.aD .i64 (rN n l 0)/\h'=h
theorem KS (hf:Is P f Dj):FD P f:=by
 refine⟨hf.2,λF h l a n ha hl=>gy hf ?_⟩;have la:=ha.aF;simp only[Dj,go_sem,la];refine iP (λm L h'=>∃i:Nat,lk 0 L=a/\lk 1 L=ι n/\lk 7 L=ι l.length/\lk 8 L=ι i/\h'=h/\i<=l.length/\m=l.length-i/\rN n (l.drop i) i=rN n l 0) l.length ?_ ?_;·exact⟨0,by simp[fE,iw],by simp[fE,iw],by simp[fE],by simp[fE],rfl,ω,ω,rfl⟩
 ·rintro m L h' ⟨i,h0,h1,h7,h8,rfl,hi,rfl,hq⟩;simp only[Hm,go_sem,h7,h8];refine iQ (λci=>?_) (λci=>?_)
  ·simp at ci;obtain⟨p,hp,hv⟩:=ha.aG ci;have e:IntKind.i64.wrap (↑i+1)=(i:Int)+1:=gF ω;simp only[go_sem,h0,h1,h8,hp,hv];rw[YL ci]at hq;simp only[rN]at hq;by_cases c:n=l[i];·simp only[go_sem,WZ c];rw[WW c]at hq;rw[<-hq]
   ·simp only[go_sem,WV c,h0,h1,h7,h8,e];rw[WY c]at hq;exact⟨_,ω,i+1,ς,ci,rfl,hq⟩
  ·simp at ci;simp only[go_sem];obtain rfl:i=l.length:=ω;rw[ZB]at hq;rw[<-hq];rfl
def oM (P:Program)(f:FuncId):Prop:=
 fZ P f=true/\∀(F:Nat->Prop)(h:fu)(l:List Int)(a:AV)(n:Int),Rd F h (f_ l) a->l.length<=2^40->fO P f [a,.aD .i64 n] h λr h'=>r=.aE (decide (n∈l))/\h'=h
theorem Kx (hf:Is P f (Df g))(hg:FD P g):oM P f:=by refine⟨hf.2,λF h l a n ha hl=>gy hf ?_⟩;simp only[Df,go_sem];refine fK ⟨hg.1,hg.2 F _ l a n ha hl⟩ ?_;rintro _ _ ⟨rfl,rfl⟩;simp only[go_sem,Ow]
def Ag (P:Program)(f:FuncId):Prop:=
 fZ P f=true/\∀(F:Nat->Prop)(h:fu)(l:List Int)(a:AV)(g:FuncId)(fs cs:List AV)(p:Int->Bool),Rd F h (f_ l) a->l.length<=2^40->fZ P g=true->
  (∀n,fO P g (fs++[.aD .i64 n]++cs) h λr h'=>r=.aE (p n)/\h'=h)->fO P f [a,.aL g fs cs] h λr h'=>r=.aD .i64 (l.countP p)/\h'=h
theorem Hw (hf:Is P f Cu):Ag P f:=by
 refine⟨hf.2,λF h l a g fs cs p ha hl hi hg=>gy hf ?_⟩;have la:=ha.aF;simp only[Cu,go_sem,la];refine iP (λm L h'=>∃i c:Nat,lk 1 L=.aL g fs cs/\lk 5 L=ι c/\lk 8 L=a/\lk 9 L=ι l.length/\lk 10 L=ι i/\h'=h/\i<=l.length/\c<=i/\m=l.length-i/\c+(l.drop i).countP p=l.countP p) l.length ?_ ?_;·exact⟨0,0,by simp[fE,iw],by simp[fE],by simp[fE],by simp[fE],by simp[fE],rfl,ω,ω,ω,ς⟩
 ·rintro m L h' ⟨i,c,h1,h5,h8,h9,u,rfl,hi2,hci,rfl,hq⟩;simp only[G_,go_sem,h9,u];refine iQ (λci=>?_) (λci=>?_)
  ·simp at ci;obtain⟨q,hp,hv⟩:=ha.aG ci;have e:IntKind.i64.wrap (↑i+1)=(i:Int)+1:=gF ω;have e2:IntKind.i64.wrap (↑c+1)=((c+1:Nat):Int):=by rw[gF ω];omega
   simp only[go_sem,h1,h8,u,hp,hv];rw[YL ci,List.countP_cons]at hq;refine fK ⟨hi,hg _⟩ ?_;rintro _ _ ⟨rfl,rfl⟩;cases E:p l[i];·simp only[go_sem,h1,h5,h8,h9,u,e];exact⟨_,ω,i+1,c,ς,ς,ci,ω,rfl,by simpa [E] using hq⟩
   ·simp only[go_sem,h1,h5,h8,h9,u,e,e2];exact⟨_,ω,i+1,c+1,ς,ς,ci,ω,rfl,by simp only[E,Yc]at hq;omega⟩
  ·simp at ci;simp only[go_sem,h5];obtain rfl:i=l.length:=ω;rw[ZB]at hq;simp at hq;rw[hq]
theorem Ex (a b:Int):jX .quo (ι a) (ι b)=if b=0 then none else some (ι (IntKind.i64.wrap (a.tdiv b))):=W_ rfl rfl
theorem Ju (a b:Int):jX .rem (ι a) (ι b)=if b=0 then none else some (ι (a.tmod b)):=W_ rfl rfl
def om (l yes:List Int):Bool:=decide (l.length / 2<l.countP λn=>decide (n∈yes))
def fI.aE (x:fI)(yes:List Int):Bool:=om x.aA yes && (decide (x.aC.length=0) || om x.aC yes)
def Fs (P:Program)(f:FuncId):Prop:=
 fZ P f=true/\∀(F F':Nat->Prop)(h:fu)(l yes:List Int)(a b:AV),Rd F h (f_ l) a->Rd F' h (f_ yes) b->l.length<=2^40->yes.length<=2^40->fO P f [a,b] h λr h'=>r=.aE (om l yes)/\h'=h
theorem Oi (hf:Is P f (yE g))(hg:oM P g){F:Nat->Prop}{h:fu}{e:List Int}{b q:AV}(hb:Rd F h (f_ e) b)(hy:e.length<=2^40)(hq:iK h false 1 q=some b)(n:Int):
  fO P f [ι n,q] h λr h'=>r=.aE (decide (n∈e))/\h'=h:=by
 refine gy hf ?_;simp only[yE,go_sem,hq];refine fK ⟨hg.1,hg.2 F _ e b n hb hy⟩ ?_;rintro _ _ ⟨rfl,rfl⟩;simp only[go_sem]
theorem Oj {k c:FuncId}(hf:Is P f (Cv k g))(hk:Is P k (yE c))(hc:oM P c)(hg:Ag P g):Fs P f:=by
 refine⟨hf.2,λF F' h l u a b ha hb hl hy=>kx (tO _ _) (gy hf ?_)⟩;have la:=ha.aF;simp only[Cv,go_sem,hb.aA,gV hb.aA];refine fK ⟨hg.1,hg.2 F _ l a k [] [.aA h.length 1 0 0] (λn=>decide (n∈u)) (ha.up (fq.b1 _)) hl hk.2 (λn=>Oi hk hc (hb.up (fq.b1 _)) hy (by simp only[go_sem]) n)⟩ ?_;rintro _ _ ⟨rfl,rfl⟩;have e:IntKind.i64.wrap ((l.length:Int).tdiv 2)=((l.length / 2:Nat):Int):=by rw[Int.tdiv_eq_ediv_of_nonneg ω,gF ω];omega
 have z2:∀{x:Option AV},(if (2:Int)=0 then none else x)=x:=fun {x}=>WY δ;simp only[go_sem,la,Ex,z2,e];exact⟨by simp only[om];congr 1;simp only[decide_eq_decide];omega,fq.b1 _⟩
def vX (P:Program)(f:FuncId):Prop:=
 fZ P f=true/\∀(F F':Nat->Prop)(h:fu)(x:fI)(yes:List Int)(a:List AV)(b:AV),fH F h x.c a->Rd F' h (f_ yes) b->x.aH (2^40)->yes.length<=2^40->fO P f [.aF a,b] h λr h'=>r=.aE (x.aE yes)/\h'=h
theorem IJ (n:Nat):decide ((n:Int)=0)=decide (n=0):=by simp
theorem Sp (hf:Is P f (Ct g))(hg:Fs P g):vX P f:=by
 refine⟨hf.2,λF F' h x u a b ha hb hl hy=>kx (tO _ _) (gy hf ?_)⟩;obtain⟨o,n,e,rfl,ho,hn,he⟩:=pA ha;have ln:=hn.aF;simp only[Ct,go_sem,ho.aA,hn.aA,he.aA];refine fK ⟨hg.1,hg.2 F F' _ x.aA u _ _ (ho.up (fq.b1 _)) (hb.up (fq.b1 _)) hl.1 hy⟩ ?_;rintro _ _ ⟨rfl,rfl⟩;cases c1:om x.aA u;·simp only[go_sem];exact⟨by simp[fI.aE,c1],fq.b1 _⟩
 ·simp only[go_sem,ln,IJ];by_cases c2:x.aC.length=0;·simp only[go_sem,WZ c2];exact⟨by simp only[fI.aE,c1,WZ c2,ZE,Bool.and_true],fq.b1 _⟩
  ·simp only[go_sem,WV c2];refine fK ⟨hg.1,hg.2 F F' _ x.aC u _ _ (hn.up (fq.b1 _)) (hb.up (fq.b1 _)) hl.2.1 hy⟩ ?_;rintro _ _ ⟨rfl,rfl⟩;simp only[go_sem];exact⟨by simp only[fI.aE,c1,WV c2,Bool.false_or,ZI],fq.b1 _⟩
variable {P:Program}{f g:FuncId}
def lS (v:Int)(ps:List (Int×Int)):List Int:=(ps.filter λp=>decide (v<=p.2)).map (·.1)
def fI.aL (x:fI)(all:List (Int×Int)):List (Int×Int)->Int->Int
 | [],b=>b
 | p :: r,b=>x.aL all r (if b<p.2/\x.aE (lS p.2 all)=true then p.2 else b)
def fI.aJ (x:fI)(nodes reached:List Int):Int:=x.aL (nodes.zip reached) (nodes.zip reached) 0
theorem Kl (v:Int)(ps:List (Int×Int)):(lS v ps).length<=ps.length:=by simp only[lS,Xd];exact YN _ _
theorem WO {v:Int}{ps:List (Int×Int)}{i:Nat}(hi:i<ps.length):lS v (ps.take (i+1))=lS v (ps.take i)++(if v<=ps[i].2 then [ps[i].1] else []):=by
 rw[XE hi];simp only[lS,List.filter_append,XU,List.filter_cons,List.filter_nil];congr 1;by_cases c:v<=ps[i].2;·simp[c]
 ·simp[c]
def zX (P:Program)(f:FuncId):Prop:=
 fZ P f=true/\∀(F F' F'':Nat->Prop)(h:fu)(x:fI)(nodes reached:List Int)(a:List AV)(b c:AV),fH F h x.c a->Rd F' h (f_ nodes) b->Rd F'' h (f_ reached) c->x.aH (2^40)->nodes.length<=2^40->reached.length<=2^40->
  fO P f [.aF a,b,c] h λr h'=>r=.aD .i64 (x.aJ nodes reached)/\h'=h
theorem Sk (hf:Is P f (Cp g))(hg:vX P g):zX P f:=by
 refine⟨hf.2,λF F' F'' h x E u a b c ha hb hc hx hn hr=>kx (zQ _ _ _) (gy hf ?_)⟩;obtain⟨o,n,e,rfl,ho,ac,he⟩:=pA ha;have lb:=hb.aF;have lc:=hc.aF;have mn:min (E.length:Int) (u.length:Int)=((min E.length u.length:Nat):Int):=ω;generalize hall:E.zip u=all;have aq:all.length=min E.length u.length:=by rw[<-hall];exact List.length_zip
 have ar:x.aJ E u=x.aL all all 0:=by simp only[fI.aJ,hall]
 obtain⟨c',hs,ao⟩:=Rd.aJ hc (lo:=none) (hi:=some (all.length:Int)) (mx:=none) ς ς (by simp;omega) ς (by simp;omega) ς;obtain⟨b',aj,ap⟩:=Rd.aJ hb (lo:=none) (hi:=some (all.length:Int)) (mx:=none) ς ς (by simp;omega) ς (by simp;omega) ς;have ae:Rd F'' h (f_ (u.take all.length)) c':=by simpa [f_,YX] using ao
 have af:Rd F' h (f_ (E.take all.length)) b':=by simpa [f_,YX] using ap
 have a8:=ae.aF;have a9:=af.aF;rw[W7,XW ω]at a8 a9;have hz:∀i (hi:i<all.length),all[i]=(E[i]' ω,u[i]' ω):=λi hi=>by subst hall;simp
 have a7:=h_ h (some (.aA 3 [[o,n,e]] false));simp only[Cp,go_sem,ho.aA,ac.aA,he.aA,lb,lc,tL,uZ,mn,<-aq,n_,hs,a8];have x0:=fq.b1 (h:=h) (some (.aA 3 [[o,n,e]] false));refine iP (λm L h'=>∃(i:Nat)(best:Int),lk 1 L=b/\lk 2 L=c/\lk 3 L=.aA h.length 3 0 0/\lk 7 L=.aD .i64 all.length/\lk 8 L=.aD .i64 best/\lk 21 L=c'/\lk 22 L=.aD .i64 all.length/\lk 23 L=.aD .i64 i /\
  fq fB (h++[some (.aA 3 [[o,n,e]] false)]) h'/\i<=all.length/\m=all.length-i/\x.aL all (all.drop i) best=x.aL all all 0) all.length ?_ ?_
 ·exact⟨0,0,by simp[fE,iw],by simp[fE,iw],by simp[fE],by simp[fE],by simp[fE],by simp[fE],by simp[fE],by simp[fE],fq.aC _ _,ω,ω,rfl⟩
 ·rintro m L h1 ⟨i,best,k1,k2,k3,k7,k8,Z,W,O,hE,hi,rfl,hq⟩;simp only[G9,go_sem,W,O];refine iQ (λci=>?_) (λci=>?_)
  ·simp at ci;have e1:IntKind.i64.wrap (↑i+1)=(i:Int)+1:=gF ω;obtain⟨p,hp,hv⟩:=((ae.up x0).up hE).aG (i:=i) (by rw[W7];omega);have ah:(u.take all.length)[i]'(by rw[W7];omega)=u[i]' ω:=YA;rw[ah]at hv;rw[YL ci]at hq;simp only[fI.aL,hz i ci]at hq;simp only[go_sem,k8,Z,O,hp,hv];generalize u[i]' ω=v at *;by_cases cb:v<=best;·simp only[go_sem,k1,k2,k3,k7,k8,Z,W,O,WZ cb,e1];rw[WY (λh=>ω)]at hq;exact⟨_,ω,i+1,best,ς,ς,hE,ci,rfl,hq⟩
   ·simp only[go_sem,k1,k7,WV cb,aj,a9];refine iP (λm L h'=>∃(j:Nat)(o':AV),lk 1 L=b/\lk 2 L=c/\lk 3 L=.aA h.length 3 0 0/\lk 7 L=.aD .i64 all.length/\lk 8 L=.aD .i64 best/\lk 10 L=.aD .i64 v/\lk 11 L=o'/\lk 21 L=c'/\lk 22 L=.aD .i64 all.length/\lk 23 L=.aD .i64 i /\
     lk 32 L=b'/\lk 33 L=.aD .i64 all.length/\lk 34 L=.aD .i64 j/\fA (f_ (lS v (all.take j))) (λm=>h1.length<=m) h' o'/\ic h' o'/\fq fB h1 h'/\j<=all.length/\m=all.length-j) all.length ?_ ?_
    ·exact⟨0,.aC,by simp[fE,k1],by simp[fE,k2],by simp[fE,k3],by simp[fE,k7],by simp[fE,k8],by simp[fE],by simp[fE],by simp[fE,Z],by simp[fE,W],by simp[fE,O],
      by simp[fE],by simp[fE],by simp[fE],by simpa [lS,f_] using fA.aD 1,Xb,fq.aC _ _,ω,ω⟩
    ·rintro m L h2 ⟨j,o',k1,k2,k3,k7,k8,a2,a5,Z,W,O,a4,a3,a1,hO,hA,U,hj,rfl⟩;simp only[G8,go_sem,a3,a1];refine iQ (λcj=>?_) (λcj=>?_)
     ·simp at cj;have e2:IntKind.i64.wrap (↑j+1)=(j:Int)+1:=gF ω;obtain⟨q,al,ab⟩:=(((af.up x0).up hE).up U).aG (i:=j) (by rw[W7];omega);obtain⟨q2,ak,ai⟩:=(((hc.up x0).up hE).up U).aG (i:=j) ω;have ag:(E.take all.length)[j]'(by rw[W7];omega)=E[j]' ω:=YA;rw[ag]at ab;have I:=WO (v:=v) cj;rw[hz j cj]at I;simp only at I;simp only[go_sem,k2,a2,a4,a1,al,ab,ak,ai];generalize E[j]' ω=nj at *;generalize u[j]' ω=rj at *;by_cases cv:v<=rj
      ·rw[WW cv]at I;have aa:=Kl v (all.take j);rw[W7]at aa;obtain⟨o2,h3,ha,am,a6,an⟩:=nW (bytes:=8) (es:=[[.aA .i64 nj]]) (h:=h2++[some (.aA 1 [[.aD .i64 nj]] false)]) hO hA (fq.aF _ _ _) (ys:=[[.aD .i64 nj]])
        (by simp[fQ,fU,fA]) U.1 (by simp;omega)
       simp only[go_sem,reduceEqDiff,reduceAdd,k1,k2,k3,k7,k8,a2,a5,Z,W,O,a4,a3,a1,WZ cv,iR (mH h2 1 [[.aD .i64 nj]] false (some 1) (len:=1) rfl),ha,e2];refine⟨_,ω,j+1,o2,rfl,ς,?_,a6,?_,cj,rfl⟩;·rw[I,f_,XU];exact am
       ·exact (U.tr (fq.b1 _)).aJ an (λm hm hm'=>by have:=U.1;omega)
      ·rw[WY cv,Yd]at I;simp only[go_sem,k1,k2,k3,k7,k8,a2,a5,Z,W,O,a4,a3,a1,WV cv,e2];exact⟨_,ω,j+1,o',rfl,ς,by rw[I];exact hO,hA,U,cj,rfl⟩
     ·simp at cj;obtain rfl:j=all.length:=ω;rw[XF]at hO;have B:=U.aA (hE.aA a7);simp only[go_sem,k1,k2,k3,k7,k8,a5,Z,W,O,B];have aa:=Kl v all;refine fK ⟨hg.1,hg.2 F (λ_=>True) _ x (lS v all) _ o' ((((uH ho ac he).up x0).up hE).up U) (fA.rd _ (λ_ _=>Xb) _ hO) hx ω⟩ ?_;rintro _ _ ⟨rfl,rfl⟩;cases hw:x.aE (lS v all);·simp only[go_sem,k1,k2,k3,k7,k8,Z,W,O,e1];rw[WY (λh=>by rw[hw]at h;exact absurd h.2 δ)]at hq;exact⟨_,ω,i+1,best,ς,ς,hE.tr U,ci,rfl,hq⟩
      ·simp only[go_sem,k1,k2,k3,k7,k8,a2,Z,W,O,e1];rw[WW ⟨ω,hw⟩]at hq;exact⟨_,ω,i+1,v,ς,ς,hE.tr U,ci,rfl,hq⟩
  ·simp at ci;obtain rfl:i=all.length:=ω;rw[ZB]at hq;simp only[fI.aL]at hq;simp only[go_sem,k8,hq,ar];exact x0.tr hE
variable {P:Program}{f g:FuncId}
def j9 (k n:Int):Int:=if n<1 then 0 else k % n
theorem vf {k n:Int}(h:0<n):0<=j9 k n/\j9 k n<n:=by simp only[j9];rw[WY ω];exact⟨Int.emod_nonneg _ ω,Int.emod_lt_of_pos _ h⟩
def vN (P:Program)(f:FuncId):Prop:=fZ P f=true/\∀(k n:Int),n<=2^40->oO P f [.aD .i64 k,.aD .i64 n] (.aD .i64 (j9 k n))
theorem KY (hf:Is P f Bj):vN P f:=by
 refine⟨hf.2,λk n hn h=>gy hf ?_⟩;simp only[Bj,go_sem];by_cases c:n<1;·simp only[go_sem,WZ c,j9,WW c]
 ·have z:∀{x:Option AV},(if n=0 then none else x)=x:=fun {x}=>WY ω;simp only[go_sem,WV c,Ju,z,j9,WY c];have h1:k.tmod n=if 0<=k then k % n else -((-k) % n):=by
   split;·rename_i h;exact Int.tmod_eq_emod_of_nonneg h
   ·rename_i h;have:k.tmod n=-((-k).tmod n):=by rw[Int.neg_tmod];omega
    rw[this,Int.tmod_eq_emod_of_nonneg ω]
  have h2:=Int.emod_nonneg k (show n≠0 by omega);have h3:=Int.emod_lt_of_pos k (show 0<n by omega);have h4:=Int.emod_nonneg (-k) (show n≠0 by omega);have h5:=Int.emod_lt_of_pos (-k) (show 0<n by omega);by_cases ck:k.tmod n<0
  ·have e:IntKind.i64.wrap (k.tmod n+n)=k % n:=by
    have hk:¬0<=k:=by intro hk;rw[WW hk]at h1;omega
    rw[WY hk]at h1;rw[gF ω,h1];have h6:(-k) % n≠0:=ω;have:k % n=(n-(-k) % n) % n:=by
     have:n-(-k) % n=k+n*(1+(-k) / n):=by have:=Int.mul_ediv_add_emod (-k) n;rw[Int.mul_add];omega
     rw[this,Int.add_mul_emod_self_left]
    rw[this,Int.emod_eq_of_lt (a:=n - -k % n) (b:=n) ω ω];omega
   simp only[go_sem,WZ ck,e]
  ·have e:k.tmod n=k % n:=by
    by_cases hk:0<=k
    ·rw[WW hk]at h1;exact h1
    ·rw[WY hk]at h1;have h7:(-k) % n=0:=ω;have:k % n=0:=by have:=Int.dvd_of_emod_eq_zero h7;exact Int.emod_eq_zero_of_dvd ((Int.dvd_neg).1 this)
     omega
   rw[e]at ck;simp only[go_sem,e,WV ck]
theorem wS (k:IntKind)(F:Nat->Prop)(h:fu):∀l:List Int,fQ (l.map λn=>[.aA k n]) F h (l.map λn=>[AV.aD k n])
 | []=>by simp only[Yb,fQ]
 | n :: l=>by simp only[XD,fQ,fU,fA];exact⟨_,_,rfl,⟨_,_,rfl,rfl,rfl⟩,wS k F h l⟩
theorem El {k:IntKind}{F:Nat->Prop}{h:fu}:∀{l:List Int} {r:List (List AV)},fQ (l.map λn=>[.aA k n]) F h r->r=l.map λn=>[AV.aD k n]
 | [],r,hh=>by simp only[Yb,fQ]at hh;simpa using hh
 | n :: l,r,hh=>by simp only[XD,fQ,fU,fA]at hh;obtain⟨a,q,rfl,⟨_,_,rfl,rfl,rfl⟩,h2⟩:=hh;rw[El h2];rfl
variable {P:Program}{f g:FuncId}
theorem yr (x:fI)(all:List (Int×Int)):∀(r:List (Int×Int)) (b:Int),b<=x.aL all r b
 | [],b=>W9 _
 | p :: r,b=>by
  simp only[fI.aL];split;·rename_i h;have:=yr x all r p.2;omega
  ·exact yr x all r b
theorem Gx (x:fI)(all:List (Int×Int)):∀(r:List (Int×Int)) (b:Int) (p:Int×Int),p∈r->x.aE (lS p.2 all)=true->p.2<=x.aL all r b
 | [],b,p,h,_=>by simp at h
 | q :: r,b,p,h,hw=>by
  simp only[fI.aL];rcases XC.1 h with rfl | h
  ·split;·exact yr x all r _
   ·rename_i hn;have:¬b<p.2:=λhlt=>hn ⟨hlt,hw⟩;have:=yr x all r b;omega
  ·exact Gx x all r _ p h hw
theorem yu (x:fI)(all:List (Int×Int)):∀(r:List (Int×Int)) (b:Int),x.aL all r b=b\/∃p∈r,x.aL all r b=p.2/\b<p.2/\x.aE (lS p.2 all)=true
 | [],b=>.inl rfl
 | q :: r,b=>by
  simp only[fI.aL];split
  ·rename_i h;rcases yu x all r q.2 with e | ⟨p,hp,e,h1,h2⟩;·exact .inr ⟨q,ς,e,h.1,h.2⟩
   ·exact .inr ⟨p,by simp[hp],e,ω,h2⟩
  ·rcases yu x all r b with e | ⟨p,hp,e,h1,h2⟩;·exact .inl e
   ·exact .inr ⟨p,by simp[hp],e,h1,h2⟩
theorem Ly {x:fI}{n r:List Int}(h:0<x.aJ n r):x.aJ n r∈r:=by
 rcases yu x (n.zip r) (n.zip r) 0 with e | ⟨p,hp,e,h1,h2⟩;·simp only[fI.aJ]at h;omega
 ·simp only[fI.aJ];rw[e];exact (List.of_mem_zip hp).2
theorem Lz {x:fI}{n r:List Int}{k:Nat}(hl:n.length=r.length)(hk:k<r.length) (hw:x.aE (lS r[k] (n.zip r))=true):r[k]<=x.aJ n r:=by
 have hm:(n[k]' ω,r[k])∈n.zip r:=by
  have:(n.zip r)[k]'(by simp[hl];omega)=(n[k]' ω,r[k]):=by simp
  rw[<-this];exact Xq _
 exact Gx x _ _ 0 _ hm hw
theorem LA {x:fI}{n r:List Int}(h:0<x.aJ n r):x.aE (lS (x.aJ n r) (n.zip r))=true:=by
 rcases yu x (n.zip r) (n.zip r) 0 with e | ⟨p,hp,e,h1,h2⟩;·simp only[fI.aJ]at h;omega
 ·simp only[fI.aJ];rw[e];exact h2
end Glb
