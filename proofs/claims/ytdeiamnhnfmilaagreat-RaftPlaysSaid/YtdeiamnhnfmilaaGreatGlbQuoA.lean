/-
  A library of its own.
-/
import Derived.Test.YtdeiamnhnfmilaaGreatGlbKitB
set_option linter.unusedSimpArgs false
set_option linter.unusedVariables false
set_option maxRecDepth 10000
set_option maxHeartbeats 4000000
open Nat (reduceAdd reduceEqDiff)
namespace Glb
open Go
theorem Rd.aF {F:Nat->Prop}{h:eZ}{l:List Int}{a:AV}(hx:Rd F h (fK l) a){i:Nat}(hi:i<l.length):
  ∃p,iH 1 a (.aA .i64 i)=some p/\gX h false 1 p=some (.aA .i64 l[i]):=by
 obtain⟨p,cs,hp,t,b⟩:=hx.aD .i64 (i:=i) (d:=[.aA .i64 l[i]]) (by omega) (by simp[hi]);simp only[fu,Rd]at b;obtain⟨_,_,rfl,rfl,rfl⟩:=b;exact⟨p,hp,by rw[hP t];exact te _ _ _⟩
theorem Rd.aE {F:Nat->Prop}{h:eZ}{l:List Int}{a:AV}(hx:Rd F h (fK l) a):g_ a=some (.aA .i64 l.length):=by simpa using hx.aB
def pQ (n:Int):List Int->Nat->Int
 | [],_=>-1
 | x :: r,k=>if n=x then k else pQ n r (k+1)
theorem Nr (n:Int):∀(l:List Int)(k:Nat),decide (0<=pQ n l k)=decide (n∈l):=by
 intro l;induction l with
 | nil=>intro k;simp[pQ]
 | cons x r ih=>
  intro k;simp only[pQ];split;·rename_i e;subst e;simp
  ·rename_i e;rw[ih];simp[e]
def Eb (P:Program)(f:FuncId):Prop:=
 fI P f=true/\∀(F:Nat->Prop)(h:eZ)(l:List Int)(a:AV)(n:Int),Rd F h (fK l) a->l.length<=2^40->fy P f [a,.aA .i64 n] h λr h'=>r=.aA .i64 (pQ n l 0)/\h'=h
theorem JB {P:Program}{f:FuncId}(hf:Is P f Cj):Eb P f:=by
 refine⟨hf.2,λF h l a n ha hl=>fN hf ?_⟩;have la:=ha.aE;simp only[Cj,go_sem,la];refine gJ (λm L h'=>∃i:Nat,lk 0 L=a/\lk 1 L=.aA .i64 n/\lk 7 L=.aA .i64 l.length/\lk 8 L=.aA .i64 i/\h'=h/\i<=l.length/\m=l.length-i/\pQ n (l.drop i) i=pQ n l 0) l.length ?_ ?_;·exact⟨0,by simp[fi,ga],by simp[fi,ga],by simp[fi],by simp[fi],rfl,by omega,by omega,rfl⟩
 ·rintro m L h' ⟨i,h0,h1,h7,h8,rfl,hi,rfl,hq⟩;simp only[Gw,go_sem,h7,h8];refine gx (λci=>?_) (λci=>?_)
  ·simp at ci;obtain⟨p,hp,hv⟩:=ha.aF ci;have e:IntKind.i64.wrap (↑i+1)=(i:Int)+1:=fQ (by omega);simp only[go_sem,h0,h1,h8,hp,hv];rw[VY ci]at hq;simp only[pQ]at hq;by_cases c:n=l[i];·simp only[go_sem,Vc c];rw[Vf c]at hq;rw[<-hq]
   ·simp only[go_sem,Va c,h0,h1,h7,h8,e];rw[Ve c]at hq;exact⟨_,by omega,i+1,by simp,ci,rfl,hq⟩
  ·simp at ci;simp only[go_sem];obtain rfl:i=l.length:=by omega
   rw[Wq]at hq;rw[<-hq];rfl
def j_ (P:Program)(f:FuncId):Prop:=
 fI P f=true/\∀(F:Nat->Prop)(h:eZ)(l:List Int)(a:AV)(n:Int),Rd F h (fK l) a->l.length<=2^40->fy P f [a,.aA .i64 n] h λr h'=>r=.aD (decide (n∈l))/\h'=h
theorem Jf {P:Program}{f g:FuncId}(hf:Is P f (Cg g))(hg:Eb P g):j_ P f:=by refine⟨hf.2,λF h l a n ha hl=>fN hf ?_⟩;simp only[Cg,go_sem];refine fq ⟨hg.1,hg.2 F _ l a n ha hl⟩ ?_;rintro _ _ ⟨rfl,rfl⟩;simp only[go_sem,Nr]
theorem Oa {P:Program}{f:FuncId}(hf:Is P f Aa):j_ P f:=by
 refine⟨hf.2,λF h l a n ha hl=>fN hf ?_⟩;have la:=ha.aE;simp only[Aa,go_sem];refine gJ (λm L h'=>∃i:Nat,lk 0 L=a/\lk 1 L=.aA .i64 n/\lk 5 L=.aA .i64 i/\h'=h/\i<=l.length/\m=l.length-i/\decide (n∈l.drop i)=decide (n∈l)) l.length ?_ ?_;·exact⟨0,by simp[fi,ga],by simp[fi,ga],by simp[fi],rfl,by omega,by omega,rfl⟩
 ·rintro m L h' ⟨i,h0,h1,h5,rfl,hi,rfl,hq⟩;simp only[FM,go_sem,h0,h5,la];refine gx (λci=>?_) (λci=>?_)
  ·simp at ci;obtain⟨p,hp,hv⟩:=ha.aF ci;have e:IntKind.i64.wrap (↑i+1)=(i:Int)+1:=fQ (by omega);simp only[go_sem,h0,h1,h5,hp,hv];rw[VY ci]at hq;by_cases c:l[i]=n;·simp only[go_sem,Vc c];rw[<-hq];simp[c]
   ·simp only[go_sem,Va c,h0,h1,h5,e];exact⟨_,by omega,i+1,by simp,ci,rfl,by rw[<-hq];have:¬n=l[i]:=λe=>c e.symm;simp only[VR,this,false_or]⟩
  ·simp at ci;simp only[go_sem];obtain rfl:i=l.length:=by omega
   rw[Wq]at hq;rw[<-hq];simp
def ye (P:Program)(f:FuncId):Prop:=
 fI P f=true/\∀(F:Nat->Prop)(h:eZ)(l:List Int)(a:AV)(g:FuncId)(fs cs:List AV)(p:Int->Bool),Rd F h (fK l) a->l.length<=2^40->fI P g=true->
  (∀n,fy P g (fs++[.aA .i64 n]++cs) h λr h'=>r=.aD (p n)/\h'=h)->fy P f [a,.aM g fs cs] h λr h'=>r=.aA .i64 (l.countP p)/\h'=h
theorem GF {P:Program}{f:FuncId}(hf:Is P f Bo):ye P f:=by
 refine⟨hf.2,λF h l a g fs cs p ha hl hi hg=>fN hf ?_⟩;have la:=ha.aE;simp only[Bo,go_sem,la];refine gJ (λm L h'=>∃i c:Nat,lk 1 L=.aM g fs cs/\lk 5 L=.aA .i64 c/\lk 8 L=a/\lk 9 L=.aA .i64 l.length/\lk 10 L=.aA .i64 i/\h'=h/\i<=l.length/\c<=i/\m=l.length-i/\c+(l.drop i).countP p=l.countP p) l.length ?_ ?_;·exact⟨0,0,by simp[fi,ga],by simp[fi],by simp[fi],by simp[fi],by simp[fi],rfl,by omega,by omega,by omega,by simp⟩
 ·rintro m L h' ⟨i,c,h1,h5,h8,h9,b,rfl,hi2,hci,rfl,hq⟩;simp only[Gi,go_sem,h9,b];refine gx (λci=>?_) (λci=>?_)
  ·simp at ci;obtain⟨q,hp,hv⟩:=ha.aF ci;have e:IntKind.i64.wrap (↑i+1)=(i:Int)+1:=fQ (by omega);have e2:IntKind.i64.wrap (↑c+1)=((c+1:Nat):Int):=by rw[fQ (by omega)];omega
   simp only[go_sem,h1,h8,b,hp,hv];rw[VY ci,List.countP_cons]at hq;refine fq ⟨hi,hg _⟩ ?_;rintro _ _ ⟨rfl,rfl⟩;cases t:p l[i];·simp only[go_sem,h1,h5,h8,h9,b,e];exact⟨_,by omega,i+1,c,by simp,by simp,ci,by omega,rfl,by simpa [t] using hq⟩
   ·simp only[go_sem,h1,h5,h8,h9,b,e,e2];exact⟨_,by omega,i+1,c+1,by simp,by simp,ci,by omega,rfl,by simp only[t,V3]at hq;omega⟩
  ·simp at ci;simp only[go_sem,h5];obtain rfl:i=l.length:=by omega
   rw[Wq]at hq;simp at hq;rw[hq]
theorem uM (a b:Int):iQ .quo (.aA .i64 a) (.aA .i64 b)=if b=0 then none else some (.aA .i64 (IntKind.i64.wrap (a.tdiv b))):=Vn rfl rfl
theorem Dh (a b:Int):iQ .rem (.aA .i64 a) (.aA .i64 b)=if b=0 then none else some (.aA .i64 (a.tmod b)):=Vn rfl rfl
def qJ (l yes:List Int):Bool:=decide (l.length / 2<l.countP λn=>decide (n∈yes))
def fG.aG (x:fG)(yes:List Int):Bool:=qJ x.aA yes && (decide (x.aB.length=0) || qJ x.aB yes)
def vK (P:Program)(f:FuncId):Prop:=
 fI P f=true/\∀(F F':Nat->Prop)(h:eZ)(l yes:List Int)(a b:AV),Rd F h (fK l) a->Rd F' h (fK yes) b->l.length<=2^40->yes.length<=2^40->fy P f [a,b] h λr h'=>r=.aD (qJ l yes)/\h'=h
theorem Ni {P:Program}{f g:FuncId}(hf:Is P f (wV g))(hg:j_ P g){F:Nat->Prop}{h:eZ}{t:List Int}{b q:AV}(hb:Rd F h (fK t) b)(hy:t.length<=2^40)(hq:gX h false 1 q=some b)(n:Int):
  fy P f [.aA .i64 n,q] h λr h'=>r=.aD (decide (n∈t))/\h'=h:=by
 refine fN hf ?_;simp only[wV,go_sem,hq];refine fq ⟨hg.1,hg.2 F _ t b n hb hy⟩ ?_;rintro _ _ ⟨rfl,rfl⟩;simp only[go_sem]
theorem Nj {P:Program}{f k g c:FuncId}(hf:Is P f (Bp k g))(hk:Is P k (wV c))(hc:j_ P c)(hg:ye P g):vK P f:=by
 refine⟨hf.2,λF F' h l t a b ha hb hl hy=>iF (kD _ _) (fN hf ?_)⟩;have la:=ha.aE;simp only[Bp,go_sem,hb.aA,gH hb.aA];refine fq ⟨hg.1,hg.2 F _ l a k [] [.aC h.length 1 0 0] (λn=>decide (n∈t)) (ha.up (eY.b1 _)) hl hk.2 (λn=>Ni hk hc (hb.up (eY.b1 _)) hy (by simp only[go_sem]) n)⟩ ?_;rintro _ _ ⟨rfl,rfl⟩;have e:IntKind.i64.wrap ((l.length:Int).tdiv 2)=((l.length / 2:Nat):Int):=by rw[Int.tdiv_eq_ediv_of_nonneg (by omega),fQ (by omega)];omega
 have z2:∀{x:Option AV},(if (2:Int)=0 then none else x)=x:=fun {x}=>Ve (by decide);simp only[go_sem,la,uM,z2,e];exact⟨by simp only[qJ];congr 1;simp only[decide_eq_decide];omega,eY.b1 _⟩
theorem Oe {P:Program}{f g:FuncId}(hf:Is P f (Ag g))(hg:j_ P g):vK P f:=by
 refine⟨hf.2,λF F' h l t a b ha hb hl hy=>fN hf ?_⟩;have la:=ha.aE;simp only[Ag,go_sem];refine gJ (λm L h'=>∃i c:Nat,lk 0 L=a/\lk 1 L=b/\lk 5 L=.aA .i64 c/\lk 6 L=.aA .i64 i/\h'=h/\i<=l.length/\c<=i/\m=l.length-i/\c+((l.drop i).countP λn=>decide (n∈t))=l.countP λn=>decide (n∈t)) l.length ?_ ?_;·exact⟨0,0,by simp[fi,ga],by simp[fi,ga],by simp[fi],by simp[fi],rfl,by omega,by omega,by omega,by simp⟩
 ·rintro m L h' ⟨i,c,h0,h1,h5,h6,rfl,hi2,hci,rfl,hq⟩;simp only[FP,go_sem,h0,h6,la];refine gx (λci=>?_) (λci=>?_)
  ·simp at ci;obtain⟨q,hp,hv⟩:=ha.aF ci;have e:IntKind.i64.wrap (↑i+1)=(i:Int)+1:=fQ (by omega);have e2:IntKind.i64.wrap (↑c+1)=((c+1:Nat):Int):=by rw[fQ (by omega)];omega
   simp only[go_sem,h0,h1,h6,hp,hv];rw[VY ci,List.countP_cons]at hq;refine fq ⟨hg.1,hg.2 F' _ t b _ hb hy⟩ ?_;rintro _ _ ⟨rfl,rfl⟩;by_cases hpb:l[i]∈t;·simp only[go_sem,h0,h1,h5,h6,e,e2,Vc hpb];exact⟨_,by omega,i+1,c+1,by simp,by simp,ci,by omega,rfl,by simp only[Vc hpb,V3]at hq;omega⟩
   ·simp only[go_sem,h0,h1,h5,h6,e,Va hpb];exact⟨_,by omega,i+1,c,by simp,by simp,ci,by omega,rfl,by simpa [hpb] using hq⟩
  ·simp at ci;obtain rfl:i=l.length:=by omega
   rw[Wq]at hq;simp at hq;have e:IntKind.i64.wrap ((l.length:Int)-c)=(l.length:Int)-c:=fQ (by omega);simp only[go_sem,h0,h5,la,e];subst hq;simp only[qJ];congr 1;simp only[decide_eq_decide];omega
def nQ (P:Program)(f:FuncId):Prop:=
 fI P f=true/\∀(F F':Nat->Prop)(h:eZ)(x:fG)(yes:List Int)(a:List AV)(b:AV),fu F h x.c a->Rd F' h (fK yes) b->x.aF (2^40)->yes.length<=2^40->fy P f [.aE a,b] h λr h'=>r=.aD (x.aG yes)/\h'=h
theorem CN (n:Nat):decide ((n:Int)=0)=decide (n=0):=by simp
theorem QU {P:Program}{f g:FuncId}(hf:Is P f (Bn g))(hg:vK P g):nQ P f:=by
 refine⟨hf.2,λF F' h x t a b ha hb hl hy=>iF (kD _ _) (fN hf ?_)⟩;obtain⟨o,n,e,rfl,ho,hn,he⟩:=kx ha;have ln:=hn.aE;simp only[Bn,go_sem,ho.aA,hn.aA,he.aA];refine fq ⟨hg.1,hg.2 F F' _ x.aA t _ _ (ho.up (eY.b1 _)) (hb.up (eY.b1 _)) hl.1 hy⟩ ?_;rintro _ _ ⟨rfl,rfl⟩;cases c1:qJ x.aA t;·simp only[go_sem];exact⟨by simp[fG.aG,c1],eY.b1 _⟩
 ·simp only[go_sem,ln,CN];by_cases c2:x.aB.length=0;·simp only[go_sem,Vc c2];exact⟨by simp only[fG.aG,c1,Vc c2,W9,Xp],eY.b1 _⟩
  ·simp only[go_sem,Va c2];refine fq ⟨hg.1,hg.2 F F' _ x.aB t _ _ (hn.up (eY.b1 _)) (hb.up (eY.b1 _)) hl.2.1 hy⟩ ?_;rintro _ _ ⟨rfl,rfl⟩;simp only[go_sem];exact⟨by simp only[fG.aG,c1,Va c2,Bool.false_or,Xf],eY.b1 _⟩
theorem Od {P:Program}{f g:FuncId}(hf:Is P f (Ae g))(hg:vK P g):nQ P f:=by
 refine⟨hf.2,λF F' h x t a b ha hb hl hy=>iF (kD _ _) (fN hf ?_)⟩;obtain⟨o,n,e,rfl,ho,hn,he⟩:=kx ha;have ln:=hn.aE;simp only[Ae,go_sem,ho.aA,hn.aA,he.aA,ln];by_cases c2:0<(x.aB.length:Int)
 ·have c3:¬x.aB.length=0:=by omega
  simp only[go_sem,Vc c2];refine fq ⟨hg.1,hg.2 F F' _ x.aB t _ _ (hn.up (eY.b1 _)) (hb.up (eY.b1 _)) hl.2.1 hy⟩ ?_;rintro _ _ ⟨rfl,rfl⟩;cases c1:qJ x.aB t;·simp only[go_sem];exact⟨by simp only[fG.aG,c1,Va c3,Bool.or_self,Bool.and_false],eY.b1 _⟩
  ·simp only[go_sem];refine fq ⟨hg.1,hg.2 F F' _ x.aA t _ _ (ho.up (eY.b1 _)) (hb.up (eY.b1 _)) hl.1 hy⟩ ?_;rintro _ _ ⟨rfl,rfl⟩;simp only[go_sem];exact⟨by simp only[fG.aG,c1,W5,Xp],eY.b1 _⟩
 ·have c3:x.aB.length=0:=by omega
  simp only[go_sem,Va c2];refine fq ⟨hg.1,hg.2 F F' _ x.aA t _ _ (ho.up (eY.b1 _)) (hb.up (eY.b1 _)) hl.1 hy⟩ ?_;rintro _ _ ⟨rfl,rfl⟩;simp only[go_sem];exact⟨by simp only[fG.aG,Vc c3,W9,Xp],eY.b1 _⟩
def mf (v:Int)(ps:List (Int×Int)):List Int:=(ps.filter λp=>decide (v<=p.2)).map (·.1)
def fG.aN (x:fG)(all:List (Int×Int)):List (Int×Int)->Int->Int
 | [],b=>b
 | p :: r,b=>x.aN all r (if b<p.2/\x.aG (mf p.2 all)=true then p.2 else b)
def fG.aO (x:fG)(nodes reached:List Int):Int:=x.aN (nodes.zip reached) (nodes.zip reached) 0
theorem xS (v:Int)(ps:List (Int×Int)):(mf v ps).length<=ps.length:=by simp only[mf,Vo];exact We _ _
theorem IZ {v:Int}{ps:List (Int×Int)}{i:Nat}(hi:i<ps.length):mf v (ps.take (i+1))=mf v (ps.take i)++(if v<=ps[i].2 then [ps[i].1] else []):=by
 rw[Vv hi];simp only[mf,Wt,VI,List.filter_cons,List.filter_nil];congr 1;by_cases c:v<=ps[i].2;·simp[c]
 ·simp[c]
def qX (P:Program)(f:FuncId):Prop:=
 fI P f=true/\∀(F F' F'':Nat->Prop)(h:eZ)(x:fG)(nodes reached:List Int)(a:List AV)(b c:AV),fu F h x.c a->Rd F' h (fK nodes) b->Rd F'' h (fK reached) c->x.aF (2^40)->nodes.length<=2^40->reached.length<=2^40->
  fy P f [.aE a,b,c] h λr h'=>r=.aA .i64 (x.aO nodes reached)/\h'=h
theorem QQ {P:Program}{f g:FuncId}(hf:Is P f (Bj g))(hg:nQ P g):qX P f:=by
 refine⟨hf.2,λF F' F'' h x u t a b c ha hb hc hx hn hr=>iF (nH _ _ _) (fN hf ?_)⟩;obtain⟨o,n,e,rfl,ho,a9,he⟩:=kx ha;have lb:=hb.aE;have lc:=hc.aE;have mn:min (u.length:Int) (t.length:Int)=((min u.length t.length:Nat):Int):=by omega
 generalize hall:u.zip t=all;have ao:all.length=min u.length t.length:=by rw[<-hall];exact List.length_zip
 have ap:x.aO u t=x.aN all all 0:=by simp only[fG.aO,hall]
 obtain⟨c',hs,am⟩:=Rd.aI hc (lo:=none) (hi:=some (all.length:Int)) (mx:=none) (by simp) (by simp) (by simp;omega) (by simp) (by simp;omega) (by simp);obtain⟨b',ag,an⟩:=Rd.aI hb (lo:=none) (hi:=some (all.length:Int)) (mx:=none) (by simp) (by simp) (by simp;omega) (by simp) (by simp;omega) (by simp);have ab:Rd F'' h (fK (t.take all.length)) c':=by simpa [fK,WL] using am
 have ac:Rd F' h (fK (u.take all.length)) b':=by simpa [fK,WL] using an
 have a5:=ab.aE;have a6:=ac.aE;rw[Vw,WW (by omega)]at a5 a6;have hz:∀i (hi:i<all.length),all[i]=(u[i]'(by omega),t[i]'(by omega)):=λi hi=>by subst hall;simp
 have a4:=gh h (some (.aA 3 [[o,n,e]] false));simp only[Bj,go_sem,ho.aA,a9.aA,he.aA,lb,lc,lZ,nw,mn,<-ao,oO,hs,a5];have x0:=eY.b1 (h:=h) (some (.aA 3 [[o,n,e]] false));refine gJ (λm L h'=>∃(i:Nat)(best:Int),lk 1 L=b/\lk 2 L=c/\lk 3 L=.aC h.length 3 0 0/\lk 7 L=.aA .i64 all.length/\lk 8 L=.aA .i64 best/\lk 21 L=c'/\lk 22 L=.aA .i64 all.length/\lk 23 L=.aA .i64 i /\
  eY fj (h++[some (.aA 3 [[o,n,e]] false)]) h'/\i<=all.length/\m=all.length-i/\x.aN all (all.drop i) best=x.aN all all 0) all.length ?_ ?_
 ·exact⟨0,0,by simp[fi,ga],by simp[fi,ga],by simp[fi],by simp[fi],by simp[fi],by simp[fi],by simp[fi],by simp[fi],eY.aC _ _,by omega,by omega,rfl⟩
 ·rintro m L h1 ⟨i,best,k1,k2,k3,k7,k8,O,M,E,hE,hi,rfl,hq⟩;simp only[Gg,go_sem,M,E];refine gx (λci=>?_) (λci=>?_)
  ·simp at ci;have e1:IntKind.i64.wrap (↑i+1)=(i:Int)+1:=fQ (by omega);obtain⟨p,hp,hv⟩:=((ab.up x0).up hE).aF (i:=i) (by rw[Vw];omega);have ae:(t.take all.length)[i]'(by rw[Vw];omega)=t[i]'(by omega):=List.getElem_take;rw[ae]at hv;rw[VY ci]at hq;simp only[fG.aN,hz i ci]at hq;simp only[go_sem,k8,O,E,hp,hv];generalize t[i]'(by omega)=v at *;by_cases cb:v<=best;·simp only[go_sem,k1,k2,k3,k7,k8,O,M,E,Vc cb,e1];rw[Ve (λh=>by omega)]at hq;exact⟨_,by omega,i+1,best,by simp,by simp,hE,ci,rfl,hq⟩
   ·simp only[go_sem,k1,k7,Va cb,ag,a6];refine gJ (λm L h'=>∃(j:Nat)(o':AV),lk 1 L=b/\lk 2 L=c/\lk 3 L=.aC h.length 3 0 0/\lk 7 L=.aA .i64 all.length/\lk 8 L=.aA .i64 best/\lk 10 L=.aA .i64 v/\lk 11 L=o'/\lk 21 L=c'/\lk 22 L=.aA .i64 all.length/\lk 23 L=.aA .i64 i /\
     lk 32 L=b'/\lk 33 L=.aA .i64 all.length/\lk 34 L=.aA .i64 j/\e_ (fK (mf v (all.take j))) (λm=>h1.length<=m) h' o'/\gq h' o'/\eY fj h1 h'/\j<=all.length/\m=all.length-j) all.length ?_ ?_
    ·exact⟨0,.aB,by simp[fi,k1],by simp[fi,k2],by simp[fi,k3],by simp[fi,k7],by simp[fi,k8],by simp[fi],by simp[fi],by simp[fi,O],by simp[fi,M],by simp[fi,E],
      by simp[fi],by simp[fi],by simp[fi],by simpa [mf,fK] using e_.aC 1,Vp,eY.aC _ _,by omega,by omega⟩
    ·rintro m L h2 ⟨j,o',k1,k2,k3,k7,k8,W,a2,O,M,E,a1,a0,U,hO,hA,I,hj,rfl⟩;simp only[Gf,go_sem,a0,U];refine gx (λcj=>?_) (λcj=>?_)
     ·simp at cj;have e2:IntKind.i64.wrap (↑j+1)=(j:Int)+1:=fQ (by omega);obtain⟨q,ai,a8⟩:=(((ac.up x0).up hE).up I).aF (i:=j) (by rw[Vw];omega);obtain⟨q2,ah,af⟩:=(((hc.up x0).up hE).up I).aF (i:=j) (by omega);have ad:(u.take all.length)[j]'(by rw[Vw];omega)=u[j]'(by omega):=List.getElem_take;rw[ad]at a8;have C:=IZ (v:=v) cj;rw[hz j cj]at C;simp only at C;simp only[go_sem,k2,W,a1,U,ai,a8,ah,af];generalize u[j]'(by omega)=nj at *;generalize t[j]'(by omega)=rj at *;by_cases cv:v<=rj
      ·rw[Vf cv]at C;have a7:=xS v (all.take j);rw[Vw]at a7;obtain⟨o2,h3,ha,aj,a3,ak⟩:=jr (bytes:=8) (es:=[[.aA .i64 nj]]) (h:=h2++[some (.aA 1 [[.aA .i64 nj]] false)]) hO hA (eY.aE _ _ _) (ys:=[[.aA .i64 nj]])
        (by simp[fP,fW,e_]) I.1 (by simp;omega)
       simp only[go_sem,reduceEqDiff,reduceAdd,k1,k2,k3,k7,k8,W,a2,O,M,E,a1,a0,U,Vc cv,ic (jn h2 1 [[.aA .i64 nj]] false (some 1) (len:=1) rfl),ha,e2];refine⟨_,by omega,j+1,o2,rfl,by simp,?_,a3,?_,cj,rfl⟩;·rw[C,fK,VI];exact aj
       ·exact (I.tr (eY.b1 _)).aI ak (λm hm hm'=>by have:=I.1;omega)
      ·rw[Ve cv,Wo]at C;simp only[go_sem,k1,k2,k3,k7,k8,W,a2,O,M,E,a1,a0,U,Va cv,e2];exact⟨_,by omega,j+1,o',rfl,by simp,by rw[C];exact hO,hA,I,cj,rfl⟩
     ·simp at cj;obtain rfl:j=all.length:=by omega
      rw[VH]at hO;have B:=I.aA (hE.aA a4);simp only[go_sem,k1,k2,k3,k7,k8,a2,O,M,E,B];have a7:=xS v all;refine fq ⟨hg.1,hg.2 F (λ_=>True) _ x (mf v all) _ o' ((((nd ho a9 he).up x0).up hE).up I) (e_.rd _ (λ_ _=>Vp) _ hO) hx (by omega)⟩ ?_;rintro _ _ ⟨rfl,rfl⟩;cases hw:x.aG (mf v all);·simp only[go_sem,k1,k2,k3,k7,k8,O,M,E,e1];rw[Ve (λh=>by rw[hw]at h;exact absurd h.2 (by decide))]at hq;exact⟨_,by omega,i+1,best,by simp,by simp,hE.tr I,ci,rfl,hq⟩
      ·simp only[go_sem,k1,k2,k3,k7,k8,W,O,M,E,e1];rw[Vf ⟨by omega,hw⟩]at hq;exact⟨_,by omega,i+1,v,by simp,by simp,hE.tr I,ci,rfl,hq⟩
  ·simp at ci;obtain rfl:i=all.length:=by omega
   rw[Wq]at hq;simp only[fG.aN]at hq;simp only[go_sem,k8,hq,ap];exact x0.tr hE
theorem N9 {P:Program}{f g:FuncId}(hf:Is P f (z7 g))(hg:nQ P g):qX P f:=by
 refine⟨hf.2,λF F' F'' h x u t a b c ha hb hc hx hn hr=>iF (nH _ _ _) (fN hf ?_)⟩;obtain⟨o,n,e,rfl,ho,a1,he⟩:=kx ha;have lb:=hb.aE;have lc:=hc.aE;generalize hall:u.zip t=all;have hal:all.length=min u.length t.length:=by rw[<-hall];exact List.length_zip
 have a2:x.aO u t=x.aN all all 0:=by simp only[fG.aO,hall]
 have hz:∀i (hi:i<all.length),all[i]=(u[i]'(by omega),t[i]'(by omega)):=λi hi=>by subst hall;simp
 have W:=gh h (some (.aA 3 [[o,n,e]] false));simp only[z7,go_sem,ho.aA,a1.aA,he.aA];have x0:=eY.b1 (h:=h) (some (.aA 3 [[o,n,e]] false));refine gJ (λm L h'=>∃(i:Nat)(best:Int),lk 1 L=b/\lk 2 L=c/\lk 3 L=.aC h.length 3 0 0/\lk 7 L=.aA .i64 best/\lk 8 L=.aA .i64 i /\
  eY fj (h++[some (.aA 3 [[o,n,e]] false)]) h'/\i<=all.length/\m=all.length-i/\x.aN all (all.drop i) best=x.aN all all 0) all.length ?_ ?_
 ·exact⟨0,0,by simp[fi,ga],by simp[fi,ga],by simp[fi],by simp[fi],by simp[fi],eY.aC _ _,by omega,by omega,rfl⟩
 ·rintro m L h1 ⟨i,best,k1,k2,k3,k7,k8,hE,hi,rfl,hq⟩;simp only[FK,go_sem,k2,k8,lc];by_cases ci:i<all.length
  ·have e1:IntKind.i64.wrap (↑i+1)=(i:Int)+1:=fQ (by omega);obtain⟨p,hp,hv⟩:=((hc.up x0).up hE).aF (i:=i) (by omega);rw[VY ci]at hq;simp only[fG.aN,hz i ci]at hq;have c1:(i:Int)<t.length:=by omega
   have c2:(i:Int)<u.length:=by omega
   simp only[go_sem,k1,k8,Vc c1,Vc c2,lb];have a9:i<t.length:=by omega
   refine gJ (λm L h'=>∃(j:Nat)(o':AV),lk 1 L=b/\lk 2 L=c/\lk 3 L=.aC h.length 3 0 0/\lk 7 L=.aA .i64 best/\lk 8 L=.aA .i64 i/\lk 9 L=o'/\lk 10 L=.aA .i64 j /\
     e_ (fK (mf t[i] (all.take j))) (λm=>h1.length<=m) h' o'/\gq h' o'/\eY fj h1 h'/\j<=all.length/\m=all.length-j) all.length ?_ ?_
   ·exact⟨0,.aB,by simp[fi,k1],by simp[fi,k2],by simp[fi,k3],by simp[fi,k7],by simp[fi,k8],by simp[fi],by simp[fi],
     by simpa [mf,fK] using e_.aC 1,Vp,eY.aC _ _,by omega,by omega⟩
   ·rintro m L h2 ⟨j,o',k1,k2,k3,k7,k8,k9,I,hO,hA,E,hj,rfl⟩;simp only[FJ,go_sem,k1,I,lb];have a5:=(((hc.up x0).up hE).up E).aF a9;obtain⟨p2,O,M⟩:=a5;by_cases cj:j<all.length
    ·have e2:IntKind.i64.wrap (↑j+1)=(j:Int)+1:=fQ (by omega);obtain⟨q,a7,a4⟩:=(((hb.up x0).up hE).up E).aF (i:=j) (by omega);obtain⟨q3,a6,a3⟩:=(((hc.up x0).up hE).up E).aF (i:=j) (by omega);have C:=IZ (v:=t[i]) cj;rw[hz j cj]at C;simp only at C;have c1:(j:Int)<t.length:=by omega
     have c2:(j:Int)<u.length:=by omega
     simp only[go_sem,k2,k8,I,Vc c1,Vc c2,lc,a6,a3,O,M];generalize u[j]'(by omega)=nj at *;generalize t[j]'(by omega)=rj at *;by_cases cv:t[i]<=rj
     ·rw[Vf cv]at C;have a0:=xS t[i] (all.take j);rw[Vw]at a0;obtain⟨o2,h3,ha,a8,U,ab⟩:=jr (bytes:=8) (es:=[[.aA .i64 nj]]) (h:=h2++[some (.aA 1 [[.aA .i64 nj]] false)]) hO hA (eY.aE _ _ _) (ys:=[[.aA .i64 nj]])
       (by simp[fP,fW,e_]) E.1 (by simp;omega)
      simp only[go_sem,reduceEqDiff,reduceAdd,k1,k2,k3,k7,k8,k9,I,a7,a4,Vc cv,ic (jn h2 1 [[.aA .i64 nj]] false (some 1) (len:=1) rfl),ha,e2];refine⟨_,by omega,j+1,o2,rfl,by simp,?_,U,?_,cj,rfl⟩;·rw[C,fK,VI];exact a8
      ·exact (E.tr (eY.b1 _)).aI ab (λm hm hm'=>by have:=E.1;omega)
     ·rw[Ve cv,Wo]at C;simp only[go_sem,k1,k2,k3,k7,k8,k9,I,Va cv,e2];exact⟨_,by omega,j+1,o',rfl,by simp,by rw[C];exact hO,hA,E,cj,rfl⟩
    ·obtain rfl:j=all.length:=by omega
     rw[VH]at hO;have B:=E.aA (hE.aA W);have a0:=xS t[i] all;by_cases c2:(all.length:Int)<u.length;case' pos=>
      have c1:¬(all.length:Int)<t.length:=by omega
      simp only[go_sem,Vc c2,Va c1,k1,k2,k3,k7,k8,I,lc,O,M]
     case' neg=>simp only[go_sem,Va c2,k1,k2,k3,k7,k8,O,M]
     all_goals
      by_cases cb:best<t[i]
      ·simp only[go_sem,Vc cb,k3,k9,B];refine fq ⟨hg.1,hg.2 F (λ_=>True) _ x (mf t[i] all) _ o' ((((nd ho a1 he).up x0).up hE).up E) (e_.rd _ (λ_ _=>Vp) _ hO) hx (by omega)⟩ ?_;rintro _ _ ⟨rfl,rfl⟩;cases hw:x.aG (mf t[i] all);·simp only[go_sem,k1,k2,k3,k7,k8,e1];rw[Ve (λh=>by rw[hw]at h;exact absurd h.2 (by decide))]at hq;exact⟨_,by omega,i+1,best,by simp,by simp,hE.tr E,ci,rfl,hq⟩
       ·simp only[go_sem,k1,k2,k3,k7,k8,O,M,e1];rw[Vf ⟨cb,hw⟩]at hq;exact⟨_,by omega,i+1,t[i],by simp,by simp,hE.tr E,ci,rfl,hq⟩
      ·simp only[go_sem,Va cb,k1,k2,k3,k7,k8,e1];rw[Ve (λh=>cb h.1)]at hq;exact⟨_,by omega,i+1,best,by simp,by simp,hE.tr E,ci,rfl,hq⟩
  ·obtain rfl:i=all.length:=by omega
   rw[Wq]at hq;simp only[fG.aN]at hq;by_cases c2:(all.length:Int)<t.length
   ·have c1:¬(all.length:Int)<u.length:=by omega
    simp only[go_sem,Vc c2,Va c1,k1,lb,k7,k8,hq,a2];exact x0.tr hE
   ·simp only[go_sem,Va c2,k7,hq,a2];exact x0.tr hE
def lI (k n:Int):Int:=if n<1 then 0 else k % n
theorem QI {k n:Int}(h:0<n):0<=lI k n/\lI k n<n:=by simp only[lI];rw[Ve (by omega)];exact⟨Int.emod_nonneg _ (by omega),Int.emod_lt_of_pos _ h⟩
def tK (P:Program)(f:FuncId):Prop:=fI P f=true/\∀(k n:Int),n<=2^40->pz P f [.aA .i64 k,.aA .i64 n] (.aA .i64 (lI k n))
theorem JO {P:Program}{f:FuncId}(hf:Is P f zo):tK P f:=by
 refine⟨hf.2,λk n hn h=>fN hf ?_⟩;simp only[zo,go_sem];by_cases c:n<1;·simp only[go_sem,Vc c,lI,Vf c]
 ·have z:∀{x:Option AV},(if n=0 then none else x)=x:=fun {x}=>Ve (by omega);simp only[go_sem,Va c,Dh,z,lI,Ve c];have h1:k.tmod n=if 0<=k then k % n else -((-k) % n):=by
   split;·rename_i h;exact WJ h
   ·rename_i h;have:k.tmod n=-((-k).tmod n):=by rw[Int.neg_tmod];omega
    rw[this,WJ (by omega)]
  have h2:=Int.emod_nonneg k (show n≠0 by omega);have h3:=Int.emod_lt_of_pos k (show 0<n by omega);have h4:=Int.emod_nonneg (-k) (show n≠0 by omega);have h5:=Int.emod_lt_of_pos (-k) (show 0<n by omega);by_cases ck:k.tmod n<0
  ·have e:IntKind.i64.wrap (k.tmod n+n)=k % n:=by
    have hk:¬0<=k:=by intro hk;rw[Vf hk]at h1;omega
    rw[Ve hk]at h1;rw[fQ (by omega),h1];have h6:(-k) % n≠0:=by omega
    have:k % n=(n-(-k) % n) % n:=by
     have:n-(-k) % n=k+n*(1+(-k) / n):=by have:=Int.mul_ediv_add_emod (-k) n;rw[Int.mul_add];omega
     rw[this,Int.add_mul_emod_self_left]
    rw[this,Int.emod_eq_of_lt (a:=n - -k % n) (b:=n) (by omega) (by omega)];omega
   simp only[go_sem,Vc ck,e]
  ·have e:k.tmod n=k % n:=by
    by_cases hk:0<=k
    ·rw[Vf hk]at h1;exact h1
    ·rw[Ve hk]at h1;have h7:(-k) % n=0:=by omega
     have:k % n=0:=by have:=Int.dvd_of_emod_eq_zero h7;exact Int.emod_eq_zero_of_dvd ((Int.dvd_neg).1 this)
     omega
   rw[e]at ck;simp only[go_sem,e,Va ck]
theorem uI (k:IntKind)(F:Nat->Prop)(h:eZ):∀l:List Int,fP (l.map λn=>[.aA k n]) F h (l.map λn=>[AV.aA k n])
 | []=>by simp only[Wg,fP]
 | n :: l=>by simp only[VS,fP,fW,e_];exact⟨_,_,rfl,⟨_,_,rfl,rfl,rfl⟩,uI k F h l⟩
theorem Db {k:IntKind}{F:Nat->Prop}{h:eZ}:∀{l:List Int} {r:List (List AV)},fP (l.map λn=>[.aA k n]) F h r->r=l.map λn=>[AV.aA k n]
 | [],r,hh=>by simp only[Wg,fP]at hh;simpa using hh
 | n :: l,r,hh=>by simp only[VS,fP,fW,e_]at hh;obtain⟨a,q,rfl,⟨_,_,rfl,rfl,rfl⟩,h2⟩:=hh;rw[Db h2];rfl
end Glb
