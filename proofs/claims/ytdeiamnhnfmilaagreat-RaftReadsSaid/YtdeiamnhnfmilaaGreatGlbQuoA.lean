/-
  A library of its own.
-/
import Derived.Test.YtdeiamnhnfmilaaGreatGlbKitB
set_option linter.unusedSimpArgs false
set_option linter.unusedVariables false
set_option maxRecDepth 10000
set_option maxHeartbeats 4000000
open Nat (reduceAdd reduceEqDiff)
namespace Glb
open Go
theorem Rd.aG {F:Nat->Prop}{h:eW}{l:List Int}{a:AV}(hx:Rd F h (fM l) a){i:Nat}(hi:i<l.length):
  ∃p,jg 1 a (.aA .i64 i)=some p/\ir h false 1 p=some (.aA .i64 l[i]):=by
 obtain⟨p,cs,hp,u,e⟩:=hx.aE .i64 (i:=i) (d:=[.aA .i64 l[i]]) (by omega) (by simp[hi]);simp only[fm,Rd]at e;obtain⟨_,_,rfl,rfl,rfl⟩:=e;exact⟨p,hp,by rw[ju u];exact xN _ _ _⟩
theorem Rd.aF {F:Nat->Prop}{h:eW}{l:List Int}{a:AV}(hx:Rd F h (fM l) a):ik a=some (.aA .i64 l.length):=by simpa using hx.aC
def qx (n:Int):List Int->Nat->Int
 | [],_=>-1
 | x :: r,k=>if n=x then k else qx n r (k+1)
theorem LY (n:Int):∀(l:List Int)(k:Nat),decide (0<=qx n l k)=decide (n∈l):=by
 intro l;induction l with
 | nil=>intro k;simp[qx]
 | cons x r ih=>
  intro k;simp only[qx];split;·rename_i e;subst e;simp
  ·rename_i e;rw[ih];simp[e]
def Du (P:Program)(f:FuncId):Prop:=
 fP P f=true/\∀(F:Nat->Prop)(h:eW)(l:List Int)(a:AV)(n:Int),Rd F h (fM l) a->l.length<=2^40->fC P f [a,.aA .i64 n] h λr h'=>r=.aA .i64 (qx n l 0)/\h'=h
theorem II {P:Program}{f:FuncId}(hf:Is P f By):Du P f:=by
 refine⟨hf.2,λF h l a n ha hl=>fU hf ?_⟩;have la:=ha.aF;simp only[By,go_sem,la];refine iM (λm L h'=>∃i:Nat,lk 0 L=a/\lk 1 L=.aA .i64 n/\lk 7 L=.aA .i64 l.length/\lk 8 L=.aA .i64 i/\h'=h/\i<=l.length/\m=l.length-i/\qx n (l.drop i) i=qx n l 0) l.length ?_ ?_;·exact⟨0,by simp[fj,h_],by simp[fj,h_],by simp[fj],by simp[fj],rfl,by omega,by omega,rfl⟩
 ·rintro m L h' ⟨i,h0,h1,h7,h8,rfl,hi,rfl,hq⟩;simp only[E7,go_sem,h7,h8];refine iw (λci=>?_) (λci=>?_)
  ·simp at ci;obtain⟨p,hp,hv⟩:=ha.aG ci;have e:IntKind.i64.wrap (↑i+1)=(i:Int)+1:=gi (by omega);simp only[go_sem,h0,h1,h8,hp,hv];rw[VT ci]at hq;simp only[qx]at hq;by_cases c:n=l[i];·simp only[go_sem,Uu c];rw[Uv c]at hq;rw[<-hq]
   ·simp only[go_sem,Us c,h0,h1,h7,h8,e];rw[Uw c]at hq;exact⟨_,by omega,i+1,by simp,ci,rfl,hq⟩
  ·simp at ci;simp only[go_sem];obtain rfl:i=l.length:=by omega
   rw[WJ]at hq;rw[<-hq];rfl
def nO (P:Program)(f:FuncId):Prop:=
 fP P f=true/\∀(F:Nat->Prop)(h:eW)(l:List Int)(a:AV)(n:Int),Rd F h (fM l) a->l.length<=2^40->fC P f [a,.aA .i64 n] h λr h'=>r=.aE (decide (n∈l))/\h'=h
theorem Il {P:Program}{f g:FuncId}(hf:Is P f (Bv g))(hg:Du P g):nO P f:=by refine⟨hf.2,λF h l a n ha hl=>fU hf ?_⟩;simp only[Bv,go_sem];refine fA ⟨hg.1,hg.2 F _ l a n ha hl⟩ ?_;rintro _ _ ⟨rfl,rfl⟩;simp only[go_sem,LY]
def ym (P:Program)(f:FuncId):Prop:=
 fP P f=true/\∀(F:Nat->Prop)(h:eW)(l:List Int)(a:AV)(g:FuncId)(fs cs:List AV)(p:Int->Bool),Rd F h (fM l) a->l.length<=2^40->fP P g=true->
  (∀n,fC P g (fs++[.aA .i64 n]++cs) h λr h'=>r=.aE (p n)/\h'=h)->fC P f [a,.aL g fs cs] h λr h'=>r=.aA .i64 (l.countP p)/\h'=h
theorem Fh {P:Program}{f:FuncId}(hf:Is P f AH):ym P f:=by
 refine⟨hf.2,λF h l a g fs cs p ha hl hi hg=>fU hf ?_⟩;have la:=ha.aF;simp only[AH,go_sem,la];refine iM (λm L h'=>∃i c:Nat,lk 1 L=.aL g fs cs/\lk 5 L=.aA .i64 c/\lk 8 L=a/\lk 9 L=.aA .i64 l.length/\lk 10 L=.aA .i64 i/\h'=h/\i<=l.length/\c<=i/\m=l.length-i/\c+(l.drop i).countP p=l.countP p) l.length ?_ ?_;·exact⟨0,0,by simp[fj,h_],by simp[fj],by simp[fj],by simp[fj],by simp[fj],rfl,by omega,by omega,by omega,by simp⟩
 ·rintro m L h' ⟨i,c,h1,h5,h8,h9,u,rfl,hi2,hci,rfl,hq⟩;simp only[EO,go_sem,h9,u];refine iw (λci=>?_) (λci=>?_)
  ·simp at ci;obtain⟨q,hp,hv⟩:=ha.aG ci;have e:IntKind.i64.wrap (↑i+1)=(i:Int)+1:=gi (by omega);have e2:IntKind.i64.wrap (↑c+1)=((c+1:Nat):Int):=by rw[gi (by omega)];omega
   simp only[go_sem,h1,h8,u,hp,hv];rw[VT ci,List.countP_cons]at hq;refine fA ⟨hi,hg _⟩ ?_;rintro _ _ ⟨rfl,rfl⟩;cases E:p l[i];·simp only[go_sem,h1,h5,h8,h9,u,e];exact⟨_,by omega,i+1,c,by simp,by simp,ci,by omega,rfl,by simpa [E] using hq⟩
   ·simp only[go_sem,h1,h5,h8,h9,u,e,e2];exact⟨_,by omega,i+1,c+1,by simp,by simp,ci,by omega,rfl,by simp only[E,Vm]at hq;omega⟩
  ·simp at ci;simp only[go_sem,h5];obtain rfl:i=l.length:=by omega
   rw[WJ]at hq;simp at hq;rw[hq]
theorem Cy (a b:Int):jx .quo (.aA .i64 a) (.aA .i64 b)=if b=0 then none else some (.aA .i64 (IntKind.i64.wrap (a.tdiv b))):=UE rfl rfl
theorem Hg (a b:Int):jx .rem (.aA .i64 a) (.aA .i64 b)=if b=0 then none else some (.aA .i64 (a.tmod b)):=UE rfl rfl
def mj (l yes:List Int):Bool:=decide (l.length / 2<l.countP λn=>decide (n∈yes))
def fq.aF (x:fq)(yes:List Int):Bool:=mj x.aA yes && (decide (x.aC.length=0) || mj x.aC yes)
def Dj (P:Program)(f:FuncId):Prop:=
 fP P f=true/\∀(F F':Nat->Prop)(h:eW)(l yes:List Int)(a b:AV),Rd F h (fM l) a->Rd F' h (fM yes) b->l.length<=2^40->yes.length<=2^40->fC P f [a,b] h λr h'=>r=.aE (mj l yes)/\h'=h
theorem LN {P:Program}{f g:FuncId}(hf:Is P f (wR g))(hg:nO P g){F:Nat->Prop}{h:eW}{e:List Int}{b q:AV}(hb:Rd F h (fM e) b)(hy:e.length<=2^40)(hq:ir h false 1 q=some b)(n:Int):
  fC P f [.aA .i64 n,q] h λr h'=>r=.aE (decide (n∈e))/\h'=h:=by
 refine fU hf ?_;simp only[wR,go_sem,hq];refine fA ⟨hg.1,hg.2 F _ e b n hb hy⟩ ?_;rintro _ _ ⟨rfl,rfl⟩;simp only[go_sem]
theorem LO {P:Program}{f k g c:FuncId}(hf:Is P f (AI k g))(hk:Is P k (wR c))(hc:nO P c)(hg:ym P g):Dj P f:=by
 refine⟨hf.2,λF F' h l u a b ha hb hl hy=>jN (rX _ _) (fU hf ?_)⟩;have la:=ha.aF;simp only[AI,go_sem,hb.aA,gC hb.aA];refine fA ⟨hg.1,hg.2 F _ l a k [] [.aC h.length 1 0 0] (λn=>decide (n∈u)) (ha.up (eV.b1 _)) hl hk.2 (λn=>LN hk hc (hb.up (eV.b1 _)) hy (by simp only[go_sem]) n)⟩ ?_;rintro _ _ ⟨rfl,rfl⟩;have e:IntKind.i64.wrap ((l.length:Int).tdiv 2)=((l.length / 2:Nat):Int):=by rw[Int.tdiv_eq_ediv_of_nonneg (by omega),gi (by omega)];omega
 have z2:∀{x:Option AV},(if (2:Int)=0 then none else x)=x:=fun {x}=>Uw (by decide);simp only[go_sem,la,Cy,z2,e];exact⟨by simp only[mj];congr 1;simp only[decide_eq_decide];omega,eV.b1 _⟩
def pt (P:Program)(f:FuncId):Prop:=
 fP P f=true/\∀(F F':Nat->Prop)(h:eW)(x:fq)(yes:List Int)(a:List AV)(b:AV),fm F h x.c a->Rd F' h (fM yes) b->x.aH (2^40)->yes.length<=2^40->fC P f [.aF a,b] h λr h'=>r=.aE (x.aF yes)/\h'=h
theorem Gj (n:Nat):decide ((n:Int)=0)=decide (n=0):=by simp
theorem PE {P:Program}{f g:FuncId}(hf:Is P f (AG g))(hg:Dj P g):pt P f:=by
 refine⟨hf.2,λF F' h x u a b ha hb hl hy=>jN (rX _ _) (fU hf ?_)⟩;obtain⟨o,n,e,rfl,ho,hn,he⟩:=n_ ha;have ln:=hn.aF;simp only[AG,go_sem,ho.aA,hn.aA,he.aA];refine fA ⟨hg.1,hg.2 F F' _ x.aA u _ _ (ho.up (eV.b1 _)) (hb.up (eV.b1 _)) hl.1 hy⟩ ?_;rintro _ _ ⟨rfl,rfl⟩;cases c1:mj x.aA u;·simp only[go_sem];exact⟨by simp[fq.aF,c1],eV.b1 _⟩
 ·simp only[go_sem,ln,Gj];by_cases c2:x.aC.length=0;·simp only[go_sem,Uu c2];exact⟨by simp only[fq.aF,c1,Uu c2,Bool.true_or,Bool.and_true],eV.b1 _⟩
  ·simp only[go_sem,Us c2];refine fA ⟨hg.1,hg.2 F F' _ x.aC u _ _ (hn.up (eV.b1 _)) (hb.up (eV.b1 _)) hl.2.1 hy⟩ ?_;rintro _ _ ⟨rfl,rfl⟩;simp only[go_sem];exact⟨by simp only[fq.aF,c1,Us c2,Bool.false_or,WO],eV.b1 _⟩
def mP (v:Int)(ps:List (Int×Int)):List Int:=(ps.filter λp=>decide (v<=p.2)).map (·.1)
def fq.aM (x:fq)(all:List (Int×Int)):List (Int×Int)->Int->Int
 | [],b=>b
 | p :: r,b=>x.aM all r (if b<p.2/\x.aF (mP p.2 all)=true then p.2 else b)
def fq.aO (x:fq)(nodes reached:List Int):Int:=x.aM (nodes.zip reached) (nodes.zip reached) 0
theorem Ia (v:Int)(ps:List (Int×Int)):(mP v ps).length<=ps.length:=by simp only[mP,UI];exact VB _ _
theorem Un {v:Int}{ps:List (Int×Int)}{i:Nat}(hi:i<ps.length):mP v (ps.take (i+1))=mP v (ps.take i)++(if v<=ps[i].2 then [ps[i].1] else []):=by
 rw[U3 hi];simp only[mP,WA,Ve,List.filter_cons,List.filter_nil];congr 1;by_cases c:v<=ps[i].2;·simp[c]
 ·simp[c]
def xX (P:Program)(f:FuncId):Prop:=
 fP P f=true/\∀(F F' F'':Nat->Prop)(h:eW)(x:fq)(nodes reached:List Int)(a:List AV)(b c:AV),fm F h x.c a->Rd F' h (fM nodes) b->Rd F'' h (fM reached) c->x.aH (2^40)->nodes.length<=2^40->reached.length<=2^40->
  fC P f [.aF a,b,c] h λr h'=>r=.aA .i64 (x.aO nodes reached)/\h'=h
theorem PA {P:Program}{f g:FuncId}(hf:Is P f (AA g))(hg:pt P g):xX P f:=by
 refine⟨hf.2,λF F' F'' h x E u a b c ha hb hc hx hn hr=>jN (xP _ _ _) (fU hf ?_)⟩;obtain⟨o,n,e,rfl,ho,ab,he⟩:=n_ ha;have lb:=hb.aF;have lc:=hc.aF;have mn:min (E.length:Int) (u.length:Int)=((min E.length u.length:Nat):Int):=by omega
 generalize hall:E.zip u=all;have ao:all.length=min E.length u.length:=by rw[<-hall];exact List.length_zip
 have ap:x.aO E u=x.aM all all 0:=by simp only[fq.aO,hall]
 obtain⟨c',hs,am⟩:=Rd.aJ hc (lo:=none) (hi:=some (all.length:Int)) (mx:=none) (by simp) (by simp) (by simp;omega) (by simp) (by simp;omega) (by simp);obtain⟨b',ah,an⟩:=Rd.aJ hb (lo:=none) (hi:=some (all.length:Int)) (mx:=none) (by simp) (by simp) (by simp;omega) (by simp) (by simp;omega) (by simp);have ac:Rd F'' h (fM (u.take all.length)) c':=by simpa [fM,V6] using am
 have ad:Rd F' h (fM (E.take all.length)) b':=by simpa [fM,V6] using an
 have a7:=ac.aF;have a8:=ad.aF;rw[UD,Vk (by omega)]at a7 a8;have hz:∀i (hi:i<all.length),all[i]=(E[i]'(by omega),u[i]'(by omega)):=λi hi=>by subst hall;simp
 have a6:=gH h (some (.aA 3 [[o,n,e]] false));simp only[AA,go_sem,ho.aA,ab.aA,he.aA,lb,lc,rU,tK,mn,<-ao,nv,hs,a7];have x0:=eV.b1 (h:=h) (some (.aA 3 [[o,n,e]] false));refine iM (λm L h'=>∃(i:Nat)(best:Int),lk 1 L=b/\lk 2 L=c/\lk 3 L=.aC h.length 3 0 0/\lk 7 L=.aA .i64 all.length/\lk 8 L=.aA .i64 best/\lk 21 L=c'/\lk 22 L=.aA .i64 all.length/\lk 23 L=.aA .i64 i /\
  eV eY (h++[some (.aA 3 [[o,n,e]] false)]) h'/\i<=all.length/\m=all.length-i/\x.aM all (all.drop i) best=x.aM all all 0) all.length ?_ ?_
 ·exact⟨0,0,by simp[fj,h_],by simp[fj,h_],by simp[fj],by simp[fj],by simp[fj],by simp[fj],by simp[fj],by simp[fj],eV.aC _ _,by omega,by omega,rfl⟩
 ·rintro m L h1 ⟨i,best,k1,k2,k3,k7,k8,W,U,M,hE,hi,rfl,hq⟩;simp only[EN,go_sem,U,M];refine iw (λci=>?_) (λci=>?_)
  ·simp at ci;have e1:IntKind.i64.wrap (↑i+1)=(i:Int)+1:=gi (by omega);obtain⟨p,hp,hv⟩:=((ac.up x0).up hE).aG (i:=i) (by rw[UD];omega);have af:(u.take all.length)[i]'(by rw[UD];omega)=u[i]'(by omega):=VK;rw[af]at hv;rw[VT ci]at hq;simp only[fq.aM,hz i ci]at hq;simp only[go_sem,k8,W,M,hp,hv];generalize u[i]'(by omega)=v at *;by_cases cb:v<=best;·simp only[go_sem,k1,k2,k3,k7,k8,W,U,M,Uu cb,e1];rw[Uw (λh=>by omega)]at hq;exact⟨_,by omega,i+1,best,by simp,by simp,hE,ci,rfl,hq⟩
   ·simp only[go_sem,k1,k7,Us cb,ah,a8];refine iM (λm L h'=>∃(j:Nat)(o':AV),lk 1 L=b/\lk 2 L=c/\lk 3 L=.aC h.length 3 0 0/\lk 7 L=.aA .i64 all.length/\lk 8 L=.aA .i64 best/\lk 10 L=.aA .i64 v/\lk 11 L=o'/\lk 21 L=c'/\lk 22 L=.aA .i64 all.length/\lk 23 L=.aA .i64 i /\
     lk 32 L=b'/\lk 33 L=.aA .i64 all.length/\lk 34 L=.aA .i64 j/\eX (fM (mP v (all.take j))) (λm=>h1.length<=m) h' o'/\gP h' o'/\eV eY h1 h'/\j<=all.length/\m=all.length-j) all.length ?_ ?_
    ·exact⟨0,.aD,by simp[fj,k1],by simp[fj,k2],by simp[fj,k3],by simp[fj,k7],by simp[fj,k8],by simp[fj],by simp[fj],by simp[fj,W],by simp[fj,U],by simp[fj,M],
      by simp[fj],by simp[fj],by simp[fj],by simpa [mP,fM] using eX.aD 1,UF,eV.aC _ _,by omega,by omega⟩
    ·rintro m L h2 ⟨j,o',k1,k2,k3,k7,k8,a1,a4,W,U,M,a3,a2,Z,hO,hA,O,hj,rfl⟩;simp only[EM,go_sem,a2,Z];refine iw (λcj=>?_) (λcj=>?_)
     ·simp at cj;have e2:IntKind.i64.wrap (↑j+1)=(j:Int)+1:=gi (by omega);obtain⟨q,aj,aa⟩:=(((ad.up x0).up hE).up O).aG (i:=j) (by rw[UD];omega);obtain⟨q2,ai,ag⟩:=(((hc.up x0).up hE).up O).aG (i:=j) (by omega);have ae:(E.take all.length)[j]'(by rw[UD];omega)=E[j]'(by omega):=VK;rw[ae]at aa;have I:=Un (v:=v) cj;rw[hz j cj]at I;simp only at I;simp only[go_sem,k2,a1,a3,Z,aj,aa,ai,ag];generalize E[j]'(by omega)=nj at *;generalize u[j]'(by omega)=rj at *;by_cases cv:v<=rj
      ·rw[Uv cv]at I;have a9:=Ia v (all.take j);rw[UD]at a9;obtain⟨o2,h3,ha,ak,a5,al⟩:=m7 (bytes:=8) (es:=[[.aA .i64 nj]]) (h:=h2++[some (.aA 1 [[.aA .i64 nj]] false)]) hO hA (eV.aF _ _ _) (ys:=[[.aA .i64 nj]])
        (by simp[fG,fI,eX]) O.1 (by simp;omega)
       simp only[go_sem,reduceEqDiff,reduceAdd,k1,k2,k3,k7,k8,a1,a4,W,U,M,a3,a2,Z,Uu cv,iq (lR h2 1 [[.aA .i64 nj]] false (some 1) (len:=1) rfl),ha,e2];refine⟨_,by omega,j+1,o2,rfl,by simp,?_,a5,?_,cj,rfl⟩;·rw[I,fM,Ve];exact ak
       ·exact (O.tr (eV.b1 _)).aJ al (λm hm hm'=>by have:=O.1;omega)
      ·rw[Uw cv,Vo]at I;simp only[go_sem,k1,k2,k3,k7,k8,a1,a4,W,U,M,a3,a2,Z,Us cv,e2];exact⟨_,by omega,j+1,o',rfl,by simp,by rw[I];exact hO,hA,O,cj,rfl⟩
     ·simp at cj;obtain rfl:j=all.length:=by omega
      rw[U7]at hO;have B:=O.aA (hE.aA a6);simp only[go_sem,k1,k2,k3,k7,k8,a4,W,U,M,B];have a9:=Ia v all;refine fA ⟨hg.1,hg.2 F (λ_=>True) _ x (mP v all) _ o' ((((s_ ho ab he).up x0).up hE).up O) (eX.rd _ (λ_ _=>UF) _ hO) hx (by omega)⟩ ?_;rintro _ _ ⟨rfl,rfl⟩;cases hw:x.aF (mP v all);·simp only[go_sem,k1,k2,k3,k7,k8,W,U,M,e1];rw[Uw (λh=>by rw[hw]at h;exact absurd h.2 (by decide))]at hq;exact⟨_,by omega,i+1,best,by simp,by simp,hE.tr O,ci,rfl,hq⟩
      ·simp only[go_sem,k1,k2,k3,k7,k8,a1,W,U,M,e1];rw[Uv ⟨by omega,hw⟩]at hq;exact⟨_,by omega,i+1,v,by simp,by simp,hE.tr O,ci,rfl,hq⟩
  ·simp at ci;obtain rfl:i=all.length:=by omega
   rw[WJ]at hq;simp only[fq.aM]at hq;simp only[go_sem,k8,hq,ap];exact x0.tr hE
def jk (k n:Int):Int:=if n<1 then 0 else k % n
theorem qC {k n:Int}(h:0<n):0<=jk k n/\jk k n<n:=by simp only[jk];rw[Uw (by omega)];exact⟨Int.emod_nonneg _ (by omega),Int.emod_lt_of_pos _ h⟩
def sE (P:Program)(f:FuncId):Prop:=fP P f=true/\∀(k n:Int),n<=2^40->nk P f [.aA .i64 k,.aA .i64 n] (.aA .i64 (jk k n))
theorem IP {P:Program}{f:FuncId}(hf:Is P f zB):sE P f:=by
 refine⟨hf.2,λk n hn h=>fU hf ?_⟩;simp only[zB,go_sem];by_cases c:n<1;·simp only[go_sem,Uu c,jk,Uv c]
 ·have z:∀{x:Option AV},(if n=0 then none else x)=x:=fun {x}=>Uw (by omega);simp only[go_sem,Us c,Hg,z,jk,Uw c];have h1:k.tmod n=if 0<=k then k % n else -((-k) % n):=by
   split;·rename_i h;exact Int.tmod_eq_emod_of_nonneg h
   ·rename_i h;have:k.tmod n=-((-k).tmod n):=by rw[Int.neg_tmod];omega
    rw[this,Int.tmod_eq_emod_of_nonneg (by omega)]
  have h2:=Int.emod_nonneg k (show n≠0 by omega);have h3:=Int.emod_lt_of_pos k (show 0<n by omega);have h4:=Int.emod_nonneg (-k) (show n≠0 by omega);have h5:=Int.emod_lt_of_pos (-k) (show 0<n by omega);by_cases ck:k.tmod n<0
  ·have e:IntKind.i64.wrap (k.tmod n+n)=k % n:=by
    have hk:¬0<=k:=by intro hk;rw[Uv hk]at h1;omega
    rw[Uw hk]at h1;rw[gi (by omega),h1];have h6:(-k) % n≠0:=by omega
    have:k % n=(n-(-k) % n) % n:=by
     have:n-(-k) % n=k+n*(1+(-k) / n):=by have:=Int.mul_ediv_add_emod (-k) n;rw[Int.mul_add];omega
     rw[this,Int.add_mul_emod_self_left]
    rw[this,Int.emod_eq_of_lt (a:=n - -k % n) (b:=n) (by omega) (by omega)];omega
   simp only[go_sem,Uu ck,e]
  ·have e:k.tmod n=k % n:=by
    by_cases hk:0<=k
    ·rw[Uv hk]at h1;exact h1
    ·rw[Uw hk]at h1;have h7:(-k) % n=0:=by omega
     have:k % n=0:=by have:=Int.dvd_of_emod_eq_zero h7;exact Int.emod_eq_zero_of_dvd ((Int.dvd_neg).1 this)
     omega
   rw[e]at ck;simp only[go_sem,e,Us ck]
theorem vh (k:IntKind)(F:Nat->Prop)(h:eW):∀l:List Int,fG (l.map λn=>[.aA k n]) F h (l.map λn=>[AV.aA k n])
 | []=>by simp only[Vl,fG]
 | n :: l=>by simp only[U5,fG,fI,eX];exact⟨_,_,rfl,⟨_,_,rfl,rfl,rfl⟩,vh k F h l⟩
theorem Co {k:IntKind}{F:Nat->Prop}{h:eW}:∀{l:List Int} {r:List (List AV)},fG (l.map λn=>[.aA k n]) F h r->r=l.map λn=>[AV.aA k n]
 | [],r,hh=>by simp only[Vl,fG]at hh;simpa using hh
 | n :: l,r,hh=>by simp only[U5,fG,fI,eX]at hh;obtain⟨a,q,rfl,⟨_,_,rfl,rfl,rfl⟩,h2⟩:=hh;rw[Co h2];rfl
theorem Fm {l a b:List Int}(h:∀n∈a,n∈b)(he:mj l a=true):mj l b=true:=by
 simp only[mj,Vb]at he ⊢;have:(l.countP λn=>decide (n∈a))<=l.countP λn=>decide (n∈b):=List.countP_mono_left λx _ hx=>by simpa using h x (by simpa using hx)
 omega
theorem Ui {x:fq}{a b:List Int}(h:∀n∈a,n∈b)(he:x.aF a=true):x.aF b=true:=by simp only[fq.aF,US,VF]at he ⊢;exact⟨Fm h he.1,he.2.imp id (Fm h)⟩
theorem zd (x:fq)(all:List (Int×Int)):∀(r:List (Int×Int)) (b:Int),x.aM all r b=b\/∃p∈r,x.aM all r b=p.2/\b<p.2/\x.aF (mP p.2 all)=true
 | [],b=>.inl rfl
 | q :: r,b=>by
  simp only[fq.aM];split
  ·rename_i h;rcases zd x all r q.2 with e | ⟨p,hp,e,h1,h2⟩;·exact .inr ⟨q,by simp,e,h.1,h.2⟩
   ·exact .inr ⟨p,by simp[hp],e,by omega,h2⟩
  ·rcases zd x all r b with e | ⟨p,hp,e,h1,h2⟩;·exact .inl e
   ·exact .inr ⟨p,by simp[hp],e,h1,h2⟩
theorem Jl {x:fq}{n r:List Int}(h:0<x.aO n r):x.aF (mP (x.aO n r) (n.zip r))=true:=by
 rcases zd x (n.zip r) (n.zip r) 0 with e | ⟨p,hp,e,h1,h2⟩;·simp only[fq.aO]at h;omega
 ·simp only[fq.aO];rw[e];exact h2
end Glb
