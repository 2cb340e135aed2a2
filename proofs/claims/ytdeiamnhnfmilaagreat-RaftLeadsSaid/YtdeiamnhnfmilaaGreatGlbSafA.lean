/-
  A library of its own.
-/
import Derived.Test.YtdeiamnhnfmilaaGreatGlbRafD
set_option linter.unusedSimpArgs false
set_option linter.unusedVariables false
set_option maxRecDepth 10000
namespace Glb
open Go
abbrev Es:=List gw
theorem js {a b:Es}{n:Nat}(h:a<+:b)(hn:n<=a.length):b.take n=a.take n:=by obtain⟨c,rfl⟩:=h;rw[Xz hn]
theorem ET {a b:Es}(h:b.take a.length=a):a<+:b:=by have:=YZ a.length b;rwa [h]at this
theorem pE {a b:Es}{n:Nat}(h:a.take n=b.take n)(hn:n<=a.length):n<=b.length:=by have:=Y5 List.length h;simp only[W7]at this;omega
theorem mi {a b:Es}{m n:Nat}(h:a.take n=b.take n)(hm:m<=n):a.take m=b.take m:=by
 have e:(a.take n).take m=(b.take n).take m:=by rw[h]
 simpa [XM,XW hm] using e
theorem mO {a b:Es}{n i:Nat}(h:a.take n=b.take n)(hi:i<n):a[i]?=b[i]?:=by
 have e:(a.take n)[i]?=(b.take n)[i]?:=by rw[h]
 simpa [Ye,hi] using e
def i_:Es->Es->Nat
 | a :: r,b :: s=>if a=b then i_ r s+1 else 0
 | _,_=>0
theorem zi:∀a b:Es,a.take (i_ a b)=b.take (i_ a b)
 | [],b=>by cases b<;>simp[i_]
 | a :: r,[]=>by simp[i_]
 | a :: r,b :: s=>by
  unfold i_;by_cases c:a=b;·rw[WW c,Zo,Zo,zi r s,c]
  ·rw[WY c];simp
theorem ze:∀a b:Es,i_ a b<=a.length/\i_ a b<=b.length
 | [],b=>by cases b<;>simp[i_]
 | a :: r,[]=>by simp[i_]
 | a :: r,b :: s=>by
  have:=ze r s;unfold i_;by_cases c:a=b;·rw[WW c];simp only[Xf];omega
  ·rw[WY c];omega
theorem wK:∀{a b:Es}{n:Nat},a.take n=b.take n->n<=a.length->n<=i_ a b
 | _,_,0,_,_=>Xm _
 | [],_,n+1,_,h2=>by simp at h2
 | a :: r,[],n+1,h1,_=>by simp at h1
 | a :: r,b :: s,n+1,h1,h2=>by rw[Zo,Zo]at h1;injection h1 with e1 e2;unfold i_;rw[WW e1];have:=wK e2 (by simpa using h2);omega
theorem zM {P:Es->Prop} (h0:P []) (h1:∀l e,P l->P (l++[e])):∀l,P l:=by
 suffices h:∀(n:Nat)(l:Es),l.length=n->P l from λl=>h _ l rfl
 intro n;induction n with
 | zero=>intro l hl;rw[W5 hl];exact h0
 | succ n ih=>
  intro l hl;have u:l≠[]:=by rintro rfl;simp at hl
  rw[<-List.dropLast_concat_getLast u];exact h1 _ _ (ih _ (by simp[hl]))
def gw.aE (e:gw):Prop:=e.aC=2/\(iG e.aD).2=0
instance (e:gw):Decidable e.aE:=inferInstanceAs (Decidable (_/\_))
def gi (l:Es):Nat:=match kF l l.length with
 | none=>0
 | some (_,k)=>k+1
def jh (c0:fI)(l:Es):fI:=match kF l l.length with
 | none=>c0
 | some (c,_)=>c
theorem Hs:∀{l m:Es}{k:Nat},l.take k=m.take k->kF l k=kF m k
 | _,_,0,_=>rfl
 | l,m,k+1,h=>by have e:=mO h (i:=k) ω;have ih:=Hs (mi h (Zc k));unfold kF;rw[e,ih]
theorem Du (l:Es)(e:gw):kF (l++[e]) (l++[e]).length=if e.aE then some ((iG e.aD).1,l.length) else kF l l.length:=by
 rw[WT,XI];conv=>lhs;unfold kF
 rw[XA (WX _)];simp only[ZF,Xx];have:kF (l++[e]) l.length=kF l l.length:=Hs ς;rw[this];rfl
theorem Nz:gi []=0:=rfl
theorem yL (l:Es)(e:gw):gi (l++[e])=if e.aE then l.length+1 else gi l:=by
 unfold gi;rw[Du];by_cases c:e.aE;·rw[WW c,WW c]
 ·rw[WY c,WY c]
theorem yN (c0:fI)(l:Es)(e:gw):jh c0 (l++[e])=if e.aE then (iG e.aD).1 else jh c0 l:=by
 unfold jh;rw[Du];by_cases c:e.aE;·rw[WW c,WW c]
 ·rw[WY c,WY c]
theorem nS (l:Es):gi l<=l.length:=by
 unfold gi;split;·omega
 ·rename_i c k h;have:=Dt h;omega
theorem rJ (l:Es):(∀k (h:k<l.length),gi l<=k->¬l[k].aE)/\(0<gi l->∃h:gi l-1<l.length,l[gi l-1].aE):=by
 induction l using zM with
 | h0=>exact⟨λk h=>by simp at h,λh=>by simp[Nz]at h⟩
 | h1 l e ih=>
  rw[yL];by_cases c:e.aE;·rw[WW c];refine⟨λk h hk=>by simp at h;omega,λ_=>⟨ς,?_⟩⟩;simp only[Nat.add_sub_cancel];rw[YM (WX _)];simpa using c
  ·rw[WY c];refine⟨λk h hk=>?_,λh0=>?_⟩
   ·by_cases ck:k<l.length
    ·rw[YC ck];exact ih.1 k ck hk
    ·have:k=l.length:=by simp at h;omega
     subst this;rw[YM (WX _)];simpa using c
   ·obtain⟨h1,h2⟩:=ih.2 h0;refine⟨by simp;omega,?_⟩;rw[YC h1];exact h2
theorem Dq {l:Es}{k:Nat}(h:k<l.length) (hc:l[k].aE):k+1<=gi l:=by apply W6;intro z;exact (rJ l).1 k h ω hc
theorem wo (c0:fI){l:Es}{k:Nat}(hk:gi l<=k):jh c0 (l.take k)=jh c0 l/\gi (l.take k)=gi l:=by
 induction l using zM with
 | h0=>simp
 | h1 l e ih=>
  by_cases c:l.length+1<=k
  ·rw[Xu (by simpa using c)];exact⟨rfl,rfl⟩
  ·have hl:k<=l.length:=ω;rw[Xz hl];rw[yL]at hk;by_cases ce:e.aE;·rw[WW ce]at hk;omega
   ·rw[WY ce]at hk;rw[yN,yL,WY ce,WY ce];exact ih hk
theorem Dr (l:Es)(k:Nat):gi (l.take k)<=gi l:=by
 by_cases c:gi (l.take k)=0
 ·omega
 ·obtain⟨h1,h2⟩:=(rJ (l.take k)).2 ω;rw[YA]at h2;have h3:gi (l.take k)-1<l.length:=by simp at h1;omega
  have:=Dq h3 h2;omega
theorem Oh {k a b:List Int}(hk:k.Nodup)(ha:om k a=true)(hb:om k b=true):∃n,n∈a/\n∈b:=by
 apply W6;intro h;have h':∀n,n∈a->n∉b:=λn h1 h2=>h ⟨n,h1,h2⟩;unfold om at ha hb;simp only[XK]at ha hb;have e:∀l:List Int,l.countP (λn=>decide (n∈a))+l.countP (λn=>decide (n∈b))<=l.length:=by
  intro l;induction l with
  | nil=>simp
  | cons x l ih=>
   simp only[List.countP_cons,Xf];by_cases c1:x∈a;·have c2:=h' x c1;simp only[c1,c2,decide_true,YY,Yc,Xt,XS];omega
   ·simp only[c1,YY,Xt,XS];split<;>omega
 have:=e k;omega
def fI.aO (c:fI):List Int:=if c.aC=[] then c.aA else c.aC
theorem WJ {c:fI}{a:List Int}(h:c.aE a=true):om c.aO a=true:=by
 unfold fI.aE at h;simp only[Xs,Ys,XK]at h;unfold fI.aO;by_cases hn:c.aC=[];·rw[WW hn];exact h.1
 ·rw[WY hn];rcases h.2 with h | h;·exact absurd (W5 h) hn
  ·exact h
def qY (c c':fI):Prop:=(∃n,c.aS n=(c',0))\/(∃n,c.aT n=(c',0))\/∃far,c.aU far=(c',true)
theorem IF {c:fI}{n:Int}(h:c.aP n=0):c.aR=false:=by
 unfold fI.aP at h;by_cases c1:c.aF=false;·rw[WW c1]at h;cases h
 ·rw[WY c1]at h;by_cases c2:n<1\/7<n;·rw[WW c2]at h;cases h
  ·rw[WY c2]at h;by_cases c3:c.aR=true;·rw[WW c3]at h;cases h
   ·simpa using c3
theorem Gz {c:fI}(h:c.aR=false):c.aC=[]/\c.aD=[]:=by unfold fI.aR at h;simp only[Ym]at h;exact⟨W5 ω,W5 ω⟩
theorem WK {c c':fI}{b:List Int}(h:qY c c')(hb:c'.aE b=true):om c.aO b=true:=by
 have o:∀x:fI,x.aE b=true->om x.aA b=true:=λx hx=>by unfold fI.aE at hx;simp only[Xs]at hx;exact hx.1
 rcases h with⟨n,h⟩ | ⟨n,h⟩ | ⟨far,h⟩
 ·unfold fI.aS at h;by_cases c1:c.aP n≠0;·rw[WW c1]at h;injection h with _ e;exact absurd e c1
  ·rw[WY c1]at h;by_cases c2:n∈c.aA;·rw[WW c2]at h;injection h with _ e;cases e
   ·rw[WY c2]at h;injection h with e _;subst e;have:=Gz (IF (by simpa using c1));unfold fI.aO;rw[WW this.1];exact (have z:=o _ hb;z)
 ·unfold fI.aT at h;by_cases c1:c.aP n≠0;·rw[WW c1]at h;injection h with _ e;exact absurd e c1
  ·rw[WY c1]at h;by_cases c2:n∉c.aA;·rw[WW c2]at h;injection h with _ e;cases e
   ·rw[WY c2]at h;by_cases c3:c.aA.length=1;·rw[WW c3]at h;injection h with _ e;cases e
    ·rw[WY c3]at h;injection h with e _;subst e;have:=Gz (IF (by simpa using c1));unfold fI.aO;rw[WW this.1];exact (have z:=o _ hb;z)
 ·unfold fI.aU at h;by_cases c1:c.aV far=true;·rw[WW c1]at h;injection h with _ e;cases e
  ·rw[WY c1]at h;by_cases c2:0<c.aC.length;·rw[WW c2]at h;injection h with e _;subst e;unfold fI.aO;rw[WY (λz=>by rw[z]at c2;simp at c2)];exact (have z:=o _ hb;z)
   ·rw[WY c2]at h;injection h with e _;subst e;unfold fI.aO;rw[WW (W5 ω)];exact (have z:=o _ hb;z)
structure m_ where
 id:Int
 l0:Es
 l:Es
structure Al where
 aC:Int
 aA:Es
 aD:Bool
structure xA where
 t:Int
 n:Nat
 l:Es
structure gJ where
 c0:fI
 aA:Int->Option m_
 aC:Int->Int->Option Al
 aG:Int->Int->Option Es
 aE:Int->Int->Nat->Prop
 aD:List xA
 aH:Int
def iU (l:Es):Int:=match l.getLast? with
 | some e=>e.aA
 | none=>0
def tD (a b:Es):Prop:=iU b<iU a\/(iU a=iU b/\b.length<=a.length)
def gJ.aF (G:gJ)(L:Es):Prop:=∀i (h:i<L.length),∃r,G.aA L[i].aA=some r/\L.take (i+1)=r.l.take (i+1)/\r.l0.length<=i
def nH (L:Es):Prop:=L.Pairwise λa b=>a.aA<=b.aA
structure gJ.aK (G:gJ)(b:Bool)(t id:Int)(L:Es):Prop where
 aA:G.aF L
 aD:nH L
 lt:∀e∈L,e.aA<t
 aC:∃Q,(jh G.c0 L).aE Q=true/\∀v∈Q,∃w,G.aC t v=some w/\w.aC=id/\(w.aD=true->b=true)/\tD L w.aA
def gw.aF (e:gw):Prop:=gT e.aD/\e.aD.length<=256/\0<=e.aC/\e.aC<=2
structure gJ.ok (G:gJ):Prop where
 aK:G.c0.aF=true
 aH:∀t r,G.aA t=some r->∀e∈r.l,e.aF
 aA:∀t r,G.aA t=some r->0<t/\r.l0<+:r.l/\r.l0.length<r.l.length/\(∀i (h:i<r.l.length),r.l0.length<=i->r.l[i].aA=t)/\G.aF r.l/\G.aK false t r.id r.l0
 aI:∀t v w,G.aC t v=some w->G.aF w.aA/\nH w.aA
 aE:∀t v n,G.aE t v n->∃r,G.aA t=some r/\n<=r.l.length
 aJ:∀t v n m,G.aE t v n->m<=n->G.aE t v m
 aL:∀t v n t' w r,G.aE t v n->G.aC t' v=some w->t<t'->G.aA t=some r->r.l.take n<+:w.aA\/∃s r',t<s/\(s<t'\/(w.aD=true/\s=t'))/\G.aA s=some r'/\¬r.l.take n<+:r'.l0
 aM:∀t v w,G.aC t v=some w->∃L,G.aG t w.aC=some L/\tD L w.aA
 aN:∀t v w,G.aC t v=some w->w.aD=true->∃r,G.aA t=some r
 aG:∀t v L,G.aG t v=some L->G.aF L/\Glb.nH L/\∀e∈L,e.aA<t
 aC:∀c∈G.aD,∃r,G.aA c.t=some r/\c.l<+:r.l/\r.l0.length<c.n/\c.n<=c.l.length/\∃Q,(jh G.c0 c.l).aE Q=true/\∀v∈Q,G.aE c.t v c.n
 aO:∀a c b,G.aD=a++c :: b->∀p (h:p<c.l.length),c.l[p].aE->p+1<gi c.l->∃c'∈b,p+1<=c'.n/\c'.t<=c.t/\c'.l.take (p+1)=c.l.take (p+1)
 aD:∀t r,G.aA t=some r->∀j (h:j<r.l.length),r.l[j].aE->r.l0.length<=j->qY (jh G.c0 (r.l.take j)) (jh G.c0 (r.l.take (j+1)))/\(gi (r.l.take j)=0\/∃c'∈G.aD,gi (r.l.take j)<=c'.n/\c'.t<=t/\c'.l.take (gi (r.l.take j))=r.l.take (gi (r.l.take j)))
theorem EF {L:Es}(h:nH L){i j:Nat}(hij:i<=j)(hj:j<L.length):(L[i]' ω).aA<=L[j].aA:=by
 by_cases c:i=j
 ·subst c;exact W9 _
 ·exact YK.1 h i j ω hj ω
theorem rQ {L:Es}(h:0<L.length):iU L=(L[L.length-1]' ω).aA:=by unfold iU;rw[List.getLast?_eq_getElem?,WU ω]
theorem TL {L:Es}(h:nH L){i:Nat}(hi:i<L.length):L[i].aA<=iU L:=by rw[rQ ω];exact EF h ω ω
theorem gJ.aF.aC {G:gJ}{L:Es}(h:G.aF L)(n:Nat):G.aF (L.take n):=by intro i hi;simp only[W7]at hi;obtain⟨r,h1,h2,h3⟩:=h i ω;refine⟨r,by rw[YA];exact h1,?_,h3⟩;rw[XM,XW ω];exact h2
theorem Hp {c0:fI}(h:c0.aF=true)(L:Es):(jh c0 L).aF=true:=by
 induction L using zM with
 | h0=>exact h
 | h1 l e ih=>
  rw[yN];by_cases c:e.aE;·rw[WW c];exact wC c.2
  ·rw[WY c];exact ih
theorem P_ {c:fI}(h:c.aF=true):c.aO.Nodup:=by
 obtain⟨-,⟨h1,-⟩,⟨h2,-⟩,-⟩:=xb.1 h;unfold fI.aO;split;·exact h1.aA
 ·exact h2.aA
section
variable {G:gJ}
theorem gJ.ok.bA (ok:G.ok){L:Es}(hL:G.aF L){j:Nat}(hj:j<L.length) (hc:L[j].aE):qY (jh G.c0 (L.take j)) (jh G.c0 (L.take (j+1))):=by obtain⟨r,h1,h2,h3⟩:=hL j hj;have hr:=pE h2 ω;have e:=mO h2 (i:=j) ω;rw[WU hj,WU ω]at e;injection e with e;have:=(ok.aD _ r h1 j ω (e▸hc) h3).1;rw[mi h2 (Zc j),h2];exact this
theorem gJ.ok.aT (ok:G.ok){L L':Es}(hL:G.aF L)(u:G.aF L') (h1:gi L=gi (L.take (i_ L L'))\/gi (L.take (gi L-1))=gi (L.take (i_ L L')))
  (h2:gi L'=gi (L.take (i_ L L'))\/gi (L'.take (gi L'-1))=gi (L.take (i_ L L'))) {a b:List Int} (ha:(jh G.c0 L).aE a=true) (hb:(jh G.c0 L').aE b=true):∃n,n∈a/\n∈b:=by
 have e:=zi L L';obtain⟨l1,l2⟩:=ze L L';have one:∀(M:Es),G.aF M->M.take (i_ L L')=L.take (i_ L L')->i_ L L'<=M.length->(gi M=gi (L.take (i_ L L'))\/gi (M.take (gi M-1))=gi (L.take (i_ L L')))->∀x,(jh G.c0 M).aE x=true->om (jh G.c0 (L.take (i_ L L'))).aO x=true:=by
  intro M hM eM lM hc x hx;have hp:=nS (L.take (i_ L L'));simp only[W7]at hp;by_cases c:gi M=gi (L.take (i_ L L'));·have:=(wo G.c0 (l:=M) (k:=i_ L L') ω).1;rw[eM]at this;rw[this];exact WJ hx
  ·have hc:=hc.resolve_left c;have hm:=Dr M (i_ L L');rw[eM]at hm;have hl:=nS M;obtain⟨g1,g2⟩:=(rJ M).2 ω;have nx:=ok.bA hM g1 g2;rw[show gi M-1+1=gi M by omega,(wo G.c0 (WX (gi M))).1]at nx;have e1:=(wo G.c0 (l:=M.take (gi M-1)) (k:=gi (L.take (i_ L L'))) ω).1;have e2:=(wo G.c0 (l:=L.take (i_ L L')) (k:=gi (L.take (i_ L L'))) (WX _)).1;rw[XM,XW ω]at e1 e2;have e3:M.take (gi (L.take (i_ L L')))=L.take (gi (L.take (i_ L L'))):=mi eM ω;rw[e3,e2]at e1;rw[e1];exact WK nx hx
 exact Oh (P_ (Hp ok.aK _)) (one L hL rfl l1 h1 a ha) (one L' u e.symm l2 h2 b hb)
theorem Dp (ok:G.ok){L:Es}{k:Nat}(hk:k<=L.length)(h1:gi L≠gi (L.take k)) (h2:gi (L.take (gi L-1))≠gi (L.take k)):k<gi (L.take (gi L-1))/\gi (L.take (gi L-1))<gi L:=by
 have a1:=Dr L k;have a2:=nS L;have a3:=nS (L.take (gi L-1));simp only[W7]at a3;have a4:=nS (L.take k);simp only[W7]at a4;refine⟨?_,ω⟩;apply W6;intro z;have hmono:gi (L.take k)<=gi (L.take (gi L-1)):=by
  by_cases c:k<=gi L-1
  ·have:=Dr (L.take (gi L-1)) k;rw[XM,XW c]at this;exact this
  ·exfalso;have e:=(wo (⟨[],[],[]⟩:fI) (l:=L) (k:=k) ω).2;exact h1 e.symm
 have hlt:0<gi (L.take (gi L-1)):=ω;obtain⟨g1,g2⟩:=(rJ (L.take (gi L-1))).2 hlt;rw[YA]at g2;have g3:gi (L.take (gi L-1))-1<(L.take k).length:=by simp only[W7];omega
 have g4:=Dq g3 (by rw[YA];exact g2);omega
theorem gJ.ok.aS (ok:G.ok)(bb:Bool)(t':Int) (I:∀s r,G.aA s=some r->(s<t'\/(bb=true/\s=t'))->∀c∈G.aD,c.t<s->c.l.take c.n<+:r.l0) (id:Int) (L':Es) (w:G.aK bb t' id L'):∀c∈G.aD,c.t<t'->c.l.take c.n<+:L':=by
 suffices hh:∀b a,G.aD=a++b->∀c∈b,c.t<t'->c.l.take c.n<+:L' from hh G.aD [] rfl
 intro b;induction b with
 | nil=>intro a _ c hc;cases hc
 | cons c b ihb=>
  intro a ea c' a4 hlt;have E:=ihb (a++[c]) (by rw[ea];simp);by_cases Z:c'∈b;·exact E c' Z hlt
  obtain rfl:c'=c:=(XC.1 a4).resolve_right Z;have O:c'∈G.aD:=by rw[ea];simp
  obtain⟨r,l1,l2,l3,l4,Q,q1,q2⟩:=ok.aC c' O;obtain⟨r1,r2,r3,r4,r5,r6⟩:=ok.aA _ r l1;have fL:G.aF c'.l:=by
   have:c'.l=r.l.take c'.l.length:=by obtain⟨z,hz⟩:=l2;rw[<-hz];simp
   rw[this];exact r5.aC _
  have a1:r.l0<+:c'.l:=YT r2 l2 ω;apply W6;intro no;have lc:=zi c'.l L';obtain⟨k1,k2⟩:=ze c'.l L';have A:gi c'.l=gi (c'.l.take (i_ c'.l L'))\/gi (c'.l.take (gi c'.l-1))=gi (c'.l.take (i_ c'.l L')):=by apply W6;intro z;rw[not_or]at z;obtain⟨z1,z2⟩:=Dp ok k1 z.1 z.2;obtain⟨g1,g2⟩:=(rJ (c'.l.take (gi c'.l-1))).2 ω;rw[YA]at g2;simp only[W7]at g1;obtain⟨d,d1,d2,d3,d4⟩:=ok.aO a c' b ea _ ω g2 ω;rw[show gi (c'.l.take (gi c'.l-1))-1+1=gi (c'.l.take (gi c'.l-1)) by omega]at d2 d4;have pd:=E d d1 ω;obtain⟨rd,m1,m2,m3,m4,-⟩:=ok.aC d (by rw[ea];simp[d1]);have e1:=js pd (n:=gi (c'.l.take (gi c'.l-1))) (by simp only[W7];omega);rw[XM,XW d2,d4]at e1;have:=wK e1.symm (by have:=nS c'.l;omega);omega
  have B:gi L'=gi (c'.l.take (i_ c'.l L'))\/gi (L'.take (gi L'-1))=gi (c'.l.take (i_ c'.l L')):=by
   apply W6;intro z;rw[lc,not_or]at z;obtain⟨z1,z2⟩:=Dp ok k2 z.1 z.2;have hl:=nS L';obtain⟨g1,g2⟩:=(rJ L').2 ω;obtain⟨rs,s1,s2,s3⟩:=w.aA _ g1;have U:=w.lt _ (Xq g1);have hr:=pE s2 ω;have e:=mO s2 (i:=gi L'-1) ω;rw[WU g1,WU ω]at e;injection e with e;have cf:=(ok.aD _ rs s1 (gi L'-1) ω (e▸g2) s3).2;rw[<-mi s2 (Zc _)]at cf;obtain⟨d,d1,d2,d3,d4⟩:=cf.resolve_left ω;have d5:d.l.take (gi (L'.take (gi L'-1)))=L'.take (gi (L'.take (gi L'-1))):=d4.trans (mi s2 ω).symm;obtain⟨rd,m1,m2,m3,m4,-⟩:=ok.aC d d1;have a3:gi (L'.take (gi L'-1))<=L'.length:=ω;have u:c'.l.take (gi (L'.take (gi L'-1)))=L'.take (gi (L'.take (gi L'-1)))->False:=λe1=>by have W:gi (L'.take (gi L'-1))<=c'.l.length:=pE e1.symm a3;have:=wK e1 W;omega
   by_cases o1:d.t<c'.t
   ·have pd:=(I _ r l1 (.inl hlt) d d1 o1).trans a1;have e1:=js pd (n:=gi (L'.take (gi L'-1))) (by simp only[W7];omega);rw[XM,XW d2,d5]at e1;exact u e1
   ·by_cases o2:d.t=c'.t
    ·rw[o2,l1]at m1;injection m1 with m1;subst m1;by_cases o3:gi (L'.take (gi L'-1))<=c'.l.length;·have e1:=js l2 o3;have e2:=js m2 (n:=gi (L'.take (gi L'-1))) ω;exact u (by rw[<-e1,e2,d5])
     ·refine no ?_;have e2:=js m2 (n:=gi (L'.take (gi L'-1))) ω;have e3:=js l2 (n:=c'.n) l4;refine ET ?_;rw[W7,XW l4,<-e3];exact (mi (e2.trans d5) ω).symm
    ·have pd:=I _ rd m1 (.inl ω) c' O ω;have hn:(c'.l.take c'.n).length=c'.n:=by simp only[W7];omega
     have W:=pd.length_le;rw[hn]at W;have e1:=js ((pd.trans (ok.aA _ rd m1).2.1)) (n:=c'.n) ω;rw[XM,Zl]at e1;have e2:=js m2 (n:=c'.n) ω;by_cases o3:gi (L'.take (gi L'-1))<=c'.n;·exact u ((mi (e1.symm.trans e2) o3).trans d5)
     ·refine no ?_;refine ET ?_;rw[hn,<-mi d5 (show c'.n<=_ by omega),<-e2,e1]
  obtain⟨Q',q3,q4⟩:=w.aC;obtain⟨v,v1,v2⟩:=ok.aT fL w.aA A B q1 q3;have ak:=q2 v v1;obtain⟨g,g1,g2,g3,g4⟩:=q4 v v2;obtain⟨f1,f2⟩:=ok.aI _ _ _ g1;have e3:=js l2 (n:=c'.n) l4;have has:c'.l.take c'.n<+:g.aA:=by
   rw[<-e3];rcases ok.aL _ _ _ _ _ _ ak g1 hlt l1 with h | ⟨s,r',h1,h2,h3,h4⟩;·exact h
   ·exfalso;rw[e3]at h4;exact h4 (I s r' h3 (h2.imp (λz=>z) (λz=>⟨g3 z.1,z.2⟩)) c' O h1)
  have hn:(c'.l.take c'.n).length=c'.n:=by simp only[W7];omega
  have gl:=has.length_le;rw[hn]at gl;have tt:c'.t<=iU g.aA:=by have e1:=js has (n:=c'.n) ω;rw[XM,Zl,<-e3]at e1;have e2:=mO e1 (i:=c'.n-1) ω;rw[WU ω,WU (by have:=l2.length_le;omega)]at e2;injection e2 with e2;have e4:=r4 (c'.n-1) (by have:=l2.length_le;omega) ω;have:=TL f2 (i:=c'.n-1) ω;rw[e2,e4]at this;exact this
  have a2:0<L'.length:=by apply W6;intro z;have:L'=[]:=W5 ω;subst this;unfold tD at g4;have:iU ([]:Es)=0:=rfl;rw[this]at g4;have:=r1;omega
  obtain⟨rs,s1,s2,s3⟩:=w.aA (L'.length-1) ω;have U:=w.lt _ (Xq (show L'.length-1<L'.length by omega));rw[<-rQ a2]at s1 U;rw[show L'.length-1+1=L'.length by omega,XF]at s2;by_cases o:iU L'=iU g.aA
  ·have gl':g.aA.length<=L'.length:=by unfold tD at g4;omega
   obtain⟨rg,t1,t2,t3⟩:=f1 (g.aA.length-1) ω;rw[<-rQ ω,<-o,s1]at t1;injection t1 with t1;subst t1;rw[show g.aA.length-1+1=g.aA.length by omega,XF]at t2;refine no (has.trans ?_);rw[t2,s2];exact List.take_prefix_take_left ω
  ·have o':iU g.aA<iU L':=by unfold tD at g4;omega
   refine no ((I _ rs s1 (.inl U) c' O ω).trans ?_);refine YT (ok.aA _ rs s1).2.1 ?_ ω;rw[s2];exact YZ _ _
theorem gJ.ok.aR (ok:G.ok): ∀(N:Nat)(t':Int),t'<=N->∀r,G.aA t'=some r->∀c∈G.aD,c.t<t'->c.l.take c.n<+:r.l0:=by
 intro N;induction N with
 | zero=>intro t' ht r hr;have:=(ok.aA _ r hr).1;omega
 | succ N ih=>intro t' ht r hr;refine ok.aS false t' (λs r' h1 h2=>ih s (by rcases h2 with h | ⟨h,-⟩;omega;cases h) r' h1) r.id r.l0 (ok.aA t' r hr).2.2.2.2.2
theorem gJ.ok.aY (ok:G.ok){t:Int}{r:m_}(hr:G.aA t=some r){c:xA}(hc:c∈G.aD)(h:c.t<t):c.l.take c.n<+:r.l0:=
 ok.aR t.toNat t ω r hr c hc h
theorem gJ.ok.aZ (ok:G.ok){b:Bool}{t id:Int}{L:Es}(h:G.aK b t id L){c:xA}(hc:c∈G.aD)(hlt:c.t<t):c.l.take c.n<+:L:=
 ok.aS b t (λs r h1 _=>ok.aR s.toNat s ω r h1) id L h c hc hlt
theorem gJ.ok.bB (ok:G.ok){b b':Bool}{t:Int}{id u:Int}{L L':Es}(h:G.aK b t id L)(h':G.aK b' t u L'):id=u:=by
 have all:∀M b j,G.aK b t j M->∀c∈G.aD,c.t<t->c.l.take c.n<+:M:=λM b j hM c hc hlt=>ok.aZ hM hc hlt;have lc:=zi L L';obtain⟨k1,k2⟩:=ze L L';have side:∀(M M':Es)(b b':Bool)(j j':Int),G.aK b t j M->G.aK b' t j' M'->gi M=gi (M.take (i_ L L'))\/gi (M.take (gi M-1))=gi (M.take (i_ L L'))\/¬(i_ L L'<=M.length/\∀n,n<=M.length->M.take n=M'.take n->n<=i_ L L'):=by intro M M' b b' j j' hM I;apply W6;intro z;rw[not_or,not_or,Classical.not_not]at z;obtain⟨z0,E,z3,z4⟩:=z;obtain⟨z1,z2⟩:=Dp ok z3 z0 E;have hl:=nS M;obtain⟨g1,g2⟩:=(rJ M).2 ω;obtain⟨rs,s1,s2,s3⟩:=hM.aA _ g1;have slt:=hM.lt _ (Xq g1);have hr:=pE s2 ω;have e:=mO s2 (i:=gi M-1) ω;rw[WU g1,WU ω]at e;injection e with e;have cf:=(ok.aD _ rs s1 (gi M-1) ω (e▸g2) s3).2;rw[<-mi s2 (Zc _)]at cf;obtain⟨d,d1,d2,d3,d4⟩:=cf.resolve_left ω;have d5:d.l.take (gi (M.take (gi M-1)))=M.take (gi (M.take (gi M-1))):=d4.trans (mi s2 ω).symm;obtain⟨rd,m1,m2,m3,m4,-⟩:=ok.aC d d1;have pd:=all M' b' j' I d d1 ω;have e1:=js pd (n:=gi (M.take (gi M-1))) (by simp only[W7];omega);rw[XM,XW d2,d5]at e1;have:=z4 _ ω e1.symm;omega
 obtain⟨Q,q1,q2⟩:=h.aC;obtain⟨Q',q3,q4⟩:=h'.aC;have A:=side L L' b b' id u h h';have B:=side L' L b' b u id h' h;have m:∃n,n∈Q/\n∈Q':=by
  refine ok.aT h.aA h'.aA ?_ ?_ q1 q3
  ·rcases A with A | A | A;·exact .inl A
   ·exact .inr A
   ·exact absurd ⟨k1,λn hn e=>wK e hn⟩ A
  ·rw[lc];rcases B with B | B | B;·exact .inl B
   ·exact .inr B
   ·exact absurd ⟨k2,λn hn e=>wK e.symm (pE e hn)⟩ B
 obtain⟨v,v1,v2⟩:=m;obtain⟨w,w1,w2,-⟩:=q2 v v1;obtain⟨w',w3,w4,-⟩:=q4 v v2;rw[w1]at w3;injection w3 with w3;subst w3;rw[<-w2,w4]
end
def gU (D:Es)(l:fG):Es:=D.take l.aA.toNat++l.es
abbrev gj (D:Es)(r:fy):Es:=gU D r.aA.aA
structure fG.on (D:Es)(l:fG):Prop where
 aA:0<=l.aA/\l.aA<=D.length
 aE:l.aD=iU (D.take l.aA.toNat)
section
variable {D:Es} {l:fG}
theorem fG.on.aH (h:l.on D):((gU D l).length:Int)=l.aC:=by obtain⟨⟨h1,h2⟩,-⟩:=h;unfold gU fG.aC;simp only[WT,W7];omega
theorem fG.on.aC (h:l.on D):(D.take l.aA.toNat).length=l.aA.toNat:=by obtain⟨⟨h1,h2⟩,-⟩:=h;simp only[W7];omega
theorem fG.on.aF (h:l.on D){n:Nat}(hn:n<=l.aA.toNat):(gU D l).take n=D.take n:=by unfold gU;rw[Xz (by rw[h.aC];omega),XM,XW hn]
theorem fG.on.up (h:l.on D){D':Es}(hd:D<+:D'):l.on D'/\gU D' l=gU D l:=by have e:D'.take l.aA.toNat=D.take l.aA.toNat:=js hd (by have:=h.aA;omega);refine⟨⟨⟨h.aA.1,by have:=h.aA.2;have:=hd.length_le;omega⟩,by rw[e];exact h.aE⟩,?_⟩;unfold gU;rw[e]
theorem tx {l:Es}{n:Nat}(h0:0<n)(hn:n<=l.length):iU (l.take n)=(l[n-1]' ω).aA:=by rw[rQ (by simp only[W7];omega)];simp only[W7,XW hn,YA]
theorem fG.on.aJ (h:l.on D){i:Nat}(hi:l.aA.toNat<=i):(gU D l)[i]?=l.es[i-l.aA.toNat]?:=by unfold gU;rw[XA (by rw[h.aC];exact hi),h.aC]
theorem fG.on.aD (h:l.on D){i:Int}(hi:l.aF i=true):l.aJ i=iU ((gU D l).take i.toNat):=by
 have hb:=h.aA;have hl:=h.aH;unfold fG.aF at hi;simp only[Xs,XK]at hi;unfold fG.aJ;rw[WW (by unfold fG.aF;simp only[Xs,XK];exact hi)];by_cases c:i=l.aA;·rw[WW c,c,h.aF (WX _)];exact h.aE
 ·rw[WY c];have h1:i.toNat<=(gU D l).length:=ω;rw[tx ω h1];have e:=h.aJ (i:=i.toNat-1) ω;rw[show i.toNat-1-l.aA.toNat=(i-l.aA-1).toNat by omega,WU ω]at e;rw[<-e]
theorem fG.on.aG (h:l.on D):l.aL=iU (gU D l):=by
 unfold fG.aL;by_cases c:l.es=[];·rw[c];simp only[Xi,List.getElem?_nil];unfold gU;rw[c,Yd];exact h.aE
 ·have h1:0<l.es.length:=Zy.2 c;have e:iU (gU D l)=iU l.es:=by
   unfold gU iU;rw[List.getLast?_append];cases e2:l.es.getLast? with
   | none=>simp at e2;exact absurd e2 c
   | some e=>simp
  rw[e,rQ h1,WU ω]
theorem fG.on.aI (h:l.on D){from_ most:Int}(h1:l.aA<from_)(h2:1<=most):l.aH from_ most=((gU D l).drop (from_-1).toNat).take most.toNat:=by
 have hl:=h.aH;have hb:=h.aA;unfold fG.aH;by_cases c:l.aC<from_;·rw[WW (.inr (.inl c)),Zf ω];simp
 ·rw[WY ω];congr 1;unfold gU;have e0:(D.take l.aA.toNat).drop (from_-1).toNat=[]:=Zf (by rw[h.aC];omega);rw[List.drop_append,e0,h.aC,Yg];congr 1;omega
end
structure jJ (k:Int)(G G':gJ):Prop where
 c0:G'.c0=G.c0
 aA:∀t r,G.aA t=some r->∃l',G'.aA t=some ⟨r.id,r.l0,l'⟩/\r.l<+:l'/\(r.id≠k->l'=r.l)
 aI:∀t r',G'.aA t=some r'->G.aA t=none->r'.id=k
 aC:∀t v w,G.aC t v=some w->G'.aC t v=some w
 aL:∀t v,v≠k->G'.aC t v=G.aC t v
 aG:∀t v w,G.aG t v=some w->G'.aG t v=some w
 aK:∀t v,v≠k->G'.aG t v=G.aG t v
 aE:∀t v n,G.aE t v n->G'.aE t v n
 aF:∀t v n,v≠k->G'.aE t v n->G.aE t v n
 aH:∀c∈G.aD,c∈G'.aD
 aD:G.aH<=G'.aH
theorem jJ.aJ (k:Int)(G:gJ):jJ k G G:=
 ⟨rfl,λ_ r h=>⟨r.l,h,Yp _,λ_=>rfl⟩,λ_ _ h1 h2=>(by rw[h1]at h2;cases h2),λ_ _ _ h=>h,λ_ _ _=>rfl,λ_ _ _ h=>h,λ_ _ _=>rfl,λ_ _ _ h=>h,λ_ _ _ _ h=>h,λ_ h=>h,W9 _⟩
theorem jJ.aM {k:Int}{G G1 G2:gJ}(a:jJ k G G1)(b:jJ k G1 G2):jJ k G G2:=by
 refine⟨b.c0.trans a.c0,λt r h=>?_,λt r' h1 h2=>?_,λt v w h=>b.aC t v w (a.aC t v w h),λt v h=>(b.aL t v h).trans (a.aL t v h),λt v w h=>b.aG t v w (a.aG t v w h),λt v h=>(b.aK t v h).trans (a.aK t v h),
  λt v n h=>b.aE t v n (a.aE t v n h),λt v n h h'=>a.aF t v n h (b.aF t v n h h'),λc h=>b.aH c (a.aH c h),Y9 a.aD b.aD⟩
 ·obtain⟨l1,h1,h2,h3⟩:=a.aA t r h;obtain⟨l2,h4,h5,h6⟩:=b.aA t _ h1;exact⟨l2,h4,h2.trans h5,λz=>(h6 z).trans (h3 z)⟩
 ·cases e:G1.aA t with
  | none=>exact b.aI t r' h1 e
  | some r1=>obtain⟨l2,h4,h5,h6⟩:=b.aA t r1 e;rw[h1]at h4;injection h4 with h4;rw[h4];exact a.aI t r1 e h2
theorem gJ.aF.aA {k:Int}{G G':gJ}{L:Es}(h:G.aF L)(g:jJ k G G'):G'.aF L:=by intro i hi;obtain⟨r,h1,h2,h3⟩:=h i hi;obtain⟨l',g1,g2,-⟩:=g.aA _ r h1;refine⟨_,g1,?_,h3⟩;rw[h2,js g2 (pE h2 ω)]
def gJ.aI (G:gJ)(t:Int)(n:Int)(L:Es):Prop:=n<=0\/n<=L.length/\∃c∈G.aD,n<=c.n/\c.t<=t/\L.take n.toNat=c.l.take n.toNat
theorem gJ.aI.aC {k:Int}{G G':gJ}{t n:Int}{L:Es}(h:G.aI t n L)(g:jJ k G G'):G'.aI t n L:=h.imp (λz=>z) λ⟨hl,c,h1,h2⟩=>⟨hl,c,g.aH c h1,h2⟩
theorem gJ.aI.aA {G:gJ}{t t' n n':Int}{L:Es}(h:G.aI t n L)(ht:t<=t')(hn:n'<=n):G.aI t' n' L:=by
 by_cases c:n'<=0
 ·exact .inl c
 ·rcases h with h | ⟨hl,c',h1,h2,h3,h4⟩;·omega
  ·exact .inr ⟨ω,c',h1,ω,ω,mi h4 ω⟩
theorem gJ.aI.of {G:gJ}{t n:Int}{L L':Es}(h:G.aI t n L)(e:L'.take n.toNat=L.take n.toNat):G.aI t n L':=h.imp (λz=>z) λ⟨hl,c,h1,h2,h3,h4⟩=>⟨by have:=pE e.symm ω;omega,c,h1,h2,h3,e.trans h4⟩
theorem gJ.ok.aX {G:gJ}(ok:G.ok){c:xA}(hc:c∈G.aD){t:Int}{x:m_}(hx:G.aA t=some x)(h:c.t<=t):c.l.take c.n<+:x.l:=by
 by_cases e:c.t=t
 ·obtain⟨r,l1,l2,-⟩:=ok.aC c hc;rw[e,hx]at l1;injection l1 with l1;subst l1;exact (YZ _ _).trans l2
 ·exact (ok.aY hx hc ω).trans (ok.aA t x hx).2.1
theorem gJ.ok.aF {G:gJ}(ok:G.ok){t n:Int}{L:Es}(h:G.aI t n L){x:m_}(hx:G.aA t=some x):L.take n.toNat=x.l.take n.toNat/\n.toNat<=x.l.length:=by
 rcases h with h | ⟨hl,c,h1,h2,h3,h4⟩;·rw[show n.toNat=0 by omega];simp
 ·have p:=ok.aX h1 hx h3;obtain⟨r,l1,l2,l3,l4,-⟩:=ok.aC c h1;have hn:n.toNat<=(c.l.take c.n).length:=by simp only[W7];omega
  have e:=js p hn;rw[XM,XW ω]at e;exact⟨by rw[h4,e],Xg hn p.length_le⟩
theorem gJ.ok.aQ {G:gJ}(ok:G.ok){t t' n n':Int}{L L':Es}(h:G.aI t n L)(h':G.aI t' n' L')(hn:n<=n'):L.take n.toNat=L'.take n.toNat:=by
 rcases id h with z | ⟨hl,c,h1,h2,h3,h4⟩;·rw[show n.toNat=0 by omega];simp
 ·rcases id h' with z | ⟨hl',c',g1,g2,g3,g4⟩;·rw[show n.toNat=0 by omega];simp
  ·have e':L'.take n.toNat=c'.l.take n.toNat:=mi g4 ω;rw[h4,e'];obtain⟨r,l1,l2,l3,l4,-⟩:=ok.aC c h1;obtain⟨r',m1,m2,m3,m4,-⟩:=ok.aC c' g1;by_cases o:c.t<=c'.t;·have a:=ok.aF (t:=c'.t) (n:=n) (L:=c.l) (.inr ⟨ω,c,h1,ω,o,rfl⟩) m1;rw[a.1,js m2 ω]
   ·have a:=ok.aF (t:=c.t) (n:=n) (L:=c'.l) (.inr ⟨ω,c',g1,ω,ω,rfl⟩) l1;rw[a.1,js l2 ω]
structure gN (G:gJ)(D:Es)(r:fy):Prop where
 id:(1<=r.id/\r.id<=7)/\r.aA.aC<=G.aH
 on:r.aA.aA.on D
 aD:G.aF (gj D r)
 aG:Glb.nH (gj D r)
 le:∀e∈gj D r,e.aA<=r.aA.aC
 aL:r.aA.aD=jh G.c0 (D.take r.aA.aA.aA.toNat)
 aH:gT r.aA.aG/\r.aA.aG.length<=1
 aA:r.aA.aA.aA<=r.aI/\r.aI<=r.aD/\r.aD<=r.aA.aA.aC
 aF:(gj D r).take r.aI.toNat=D.take r.aI.toNat/\r.aI<=D.length
 aC:G.aI r.aA.aC r.aD (gj D r)
 aE:0<=r.aA.aC
 aJ:∀t w,G.aC t r.id=some w->t<=r.aA.aC/\(t=r.aA.aC->r.aA.aF=w.aC/\w.aC≠0)
 aQ:r.aA.aF≠0->∃w,G.aC r.aA.aC r.id=some w/\w.aC=r.aA.aF
 aN:∀t L,G.aG t r.id=some L->t<=r.aA.aC
 aO:∀t x,G.aA t=some x->x.id=r.id->t<=r.aA.aC
 aI:∀t n,G.aE t r.id n->t<=r.aA.aC/\∀x,G.aA t=some x->x.l.take n<+:gj D r\/∃s y,t<s/\s<=r.aA.aC/\G.aA s=some y/\¬x.l.take n<+:y.l0
 aR:r.aE=0\/r.aE=1\/r.aE=2
 aS:r.aE=1->(0<r.aA.aC/\r.aA.aF≠0)/\G.aG r.aA.aC r.id=some (gj D r)/\(∀v∈r.aJ,∃w,G.aC r.aA.aC v=some w/\w.aC=r.id)/\∀x,G.aA r.aA.aC=some x->x.id≠r.id
 aK:r.aE=2->∃l0,G.aA r.aA.aC=some ⟨r.id,l0,gj D r⟩
 aM:∀f∈r.aC,(1<=f.aD/\f.aD<=r.aA.aA.aC+1)/\(0<=f.aC/\f.aC<=r.aA.aA.aC)/\(f.aC=0\/G.aE r.aA.aC f.aA f.aC.toNat)
structure KT (G:gJ)(m:fF):Prop where
 aA:(1<=m.aE/\m.aE<=7)/\m.aD<=G.aH
 es:m.es.length<=8/\(m.aC≠3->m.es=[])
 aE:gT m.aG/\m.aG.length<=2^16
 aD:0<=m.aH/\m.aH<=m.aD
 aC:3<=m.aC->0<=m.aA/\(m.aA=0\/∃t w,G.aA t=some w/\m.aA<=w.l.length)
structure lJ (G:gJ)(D:Es)(m:fF):Prop where
 aA:KT G m
 aG:m.aC=1->∃L,G.aG m.aD m.aE=some L/\m.aA=L.length/\m.aH=iU L
 aH:m.aC=2->m.ok=true->∃w,G.aC m.aD m.aE=some w/\w.aC=m.to
 aD:m.aC=3->∃x,G.aA m.aD=some x/\0<=m.aA/\m.aA+m.es.length<=x.l.length/\m.aH=iU (x.l.take m.aA.toNat)/\m.es=(x.l.drop m.aA.toNat).take m.es.length/\G.aI m.aD m.aI x.l
 aE:m.aC=4->m.ok=true->0<=m.aA/\(m.aA=0\/G.aE m.aD m.aE m.aA.toNat)
 aF:m.aC=5->∃x,G.aA m.aD=some x/\0<=m.aA/\m.aA<=D.length/\m.aH=iU (D.take m.aA.toNat)/\G.aI m.aD m.aA (D.take m.aA.toNat)/\(jb m.aG).2.2=0/\iG (jb m.aG).1=(jh G.c0 (D.take m.aA.toNat),0)/\gT (jb m.aG).2.1/\(jb m.aG).2.1.length<=1
theorem lJ.aC {k:Int}{G G':gJ}{D D':Es}{m:fF}(h:lJ G D m)(g:jJ k G G')(hd:D<+:D'):lJ G' D' m:=by
 refine⟨⟨⟨h.aA.aA.1,Y9 h.aA.aA.2 g.aD⟩,h.aA.es,h.aA.aE,h.aA.aD,λe=>⟨(h.aA.aC e).1,(h.aA.aC e).2.imp (λz=>z) λ⟨t,w,w1,w2⟩=>let⟨l',g1,g2,_⟩:=g.aA t w w1;⟨t,_,g1,by have:=g2.length_le;show m.aA<=(l'.length:Int);omega⟩⟩⟩,λe=>?_,λe o=>?_,λe=>?_,λe o=>?_,λe=>?_⟩;·obtain⟨L,h1,h2⟩:=h.aG e;exact⟨L,g.aG _ _ _ h1,h2⟩
 ·obtain⟨w,h1,h2⟩:=h.aH e o;exact⟨w,g.aC _ _ _ h1,h2⟩
 ·obtain⟨x,h1,h2,h3,h4,h5,h6⟩:=h.aD e;obtain⟨l',g1,g2,-⟩:=g.aA _ x h1;have e1:l'.take m.aA.toNat=x.l.take m.aA.toNat:=js g2 ω;have e2:(l'.drop m.aA.toNat).take m.es.length=(x.l.drop m.aA.toNat).take m.es.length:=by have:=js g2 (n:=m.aA.toNat+m.es.length) ω;rw[List.take_drop,List.take_drop,this]
  refine⟨_,g1,h2,by have:=g2.length_le;show m.aA+_<=(l'.length:Int);omega,by show m.aH=iU (l'.take _);rw[e1];exact h4,by show m.es=(l'.drop _).take _;rw[e2];exact h5,?_⟩;show G'.aI _ _ l';rcases h6 with z | ⟨hl,c,c1,c2,c3,c4⟩;·exact .inl z
  ·exact .inr ⟨by have:=g2.length_le;omega,c,g.aH c c1,c2,c3,(js g2 ω).trans c4⟩
 ·obtain⟨h1,h2⟩:=h.aE e o;exact⟨h1,h2.imp (λz=>z) (g.aE _ _ _)⟩
 ·obtain⟨x,h1,h2,h3,h4,h5,h6,h7⟩:=h.aF e;obtain⟨l',g1,g2,-⟩:=g.aA _ x h1;have e1:D'.take m.aA.toNat=D.take m.aA.toNat:=js hd ω;rw[g.c0,e1];exact⟨_,g1,h2,by have:=hd.length_le;omega,h4,h5.aC g,h6,h7⟩
section
variable {G:gJ} {D:Es} {r:fy}
theorem gN.bD {k:Int}{G':gJ}{D':Es}(ok:G.ok)(h:gN G D r)(g:jJ k G G')(hd:D<+:D')(hk:r.id≠k):gN G' D' r:=by
 obtain⟨on',ef⟩:=h.on.up hd;have ef:gj D' r=gj D r:=ef;have eb:D'.take r.aA.aA.aA.toNat=D.take r.aA.aA.aA.toNat:=js hd (by have:=h.on.aA;omega);have ea:D'.take r.aI.toNat=D.take r.aI.toNat:=js hd (by have:=h.aF.2;omega);refine⟨⟨h.id.1,Y9 h.id.2 g.aD⟩,on',by rw[ef];exact h.aD.aA g,by rw[ef];exact h.aG,by rw[ef];exact h.le,by rw[eb,g.c0];exact h.aL,h.aH,h.aA,⟨by rw[ef,ea];exact h.aF.1,by have:=h.aF.2;have:=hd.length_le;omega⟩,by rw[ef];exact h.aC.aC g,h.aE,λt w e=>h.aJ t w (by rwa [g.aL t _ hk]at e),λe=>?_,λt L e=>h.aN t L (by rwa [g.aK t _ hk]at e),λt x e hx=>?_,λt n e=>?_,h.aR,λe=>?_,λe=>?_,λf hf=>?_⟩;·obtain⟨w,h1,h2⟩:=h.aQ e;exact⟨w,g.aC _ _ _ h1,h2⟩
 ·cases e2:G.aA t with
  | none=>exact absurd (g.aI t x e e2) (by rw[hx];exact hk)
  | some y=>obtain⟨l',g1,g2,g3⟩:=g.aA t y e2;rw[e]at g1;injection g1 with g1;exact h.aO t y e2 (by rw[g1]at hx;exact hx)
 ·obtain⟨h1,h2⟩:=h.aI t n (g.aF t _ n hk e);refine⟨h1,λx hx=>?_⟩;obtain⟨y,y1,y2⟩:=ok.aE t _ n (g.aF t _ n hk e);obtain⟨l',g1,g2,-⟩:=g.aA t y y1;rw[hx]at g1;injection g1 with g1;have e3:x.l.take n=y.l.take n:=by rw[g1];exact js g2 y2
  rw[e3,ef];refine (h2 y y1).imp (λz=>z) λ⟨s,z,z1,z2,z3,z4⟩=>?_;obtain⟨l'',g4,-,-⟩:=g.aA s z z3;exact⟨s,_,z1,z2,g4,z4⟩
 ·obtain⟨h0,h1,h2,h3⟩:=h.aS e;refine⟨h0,by rw[ef];exact g.aG _ _ _ h1,λv hv=>?_,λx hx=>?_⟩;·obtain⟨w,w1,w2⟩:=h2 v hv;exact⟨w,g.aC _ _ _ w1,w2⟩
  ·cases e2:G.aA r.aA.aC with
   | none=>rw[g.aI _ x hx e2];exact λz=>hk z.symm
   | some y=>obtain⟨l',g1,-,-⟩:=g.aA _ y e2;rw[hx]at g1;injection g1 with g1;rw[g1];exact h3 y e2
 ·obtain⟨l0,h1⟩:=h.aK e;obtain⟨l',g1,-,g3⟩:=g.aA _ _ h1;have:=g3 hk;simp only at this g1;rw[this]at g1;exact⟨l0,by rw[ef];exact g1⟩
 ·obtain⟨h1,h2,h3⟩:=h.aM f hf;exact⟨h1,h2,h3.imp (λz=>z) (g.aE _ _ _)⟩
theorem gN.bE {D':Es}(h:gN G D r)(hd:D<+:D'):gN G D' r:=by obtain⟨u,ef⟩:=h.on.up hd;have ef:gj D' r=gj D r:=ef;have eb:D'.take r.aA.aA.aA.toNat=D.take r.aA.aA.aA.toNat:=js hd (by have:=h.on.aA;omega);have ea:D'.take r.aI.toNat=D.take r.aI.toNat:=js hd (by have:=h.aF.2;omega);exact⟨h.id,u,by rw[ef];exact h.aD,by rw[ef];exact h.aG,by rw[ef];exact h.le,by rw[eb];exact h.aL,h.aH,h.aA,⟨by rw[ef,ea];exact h.aF.1,by have:=h.aF.2;have:=hd.length_le;omega⟩,by rw[ef];exact h.aC,h.aE,h.aJ,h.aQ,h.aN,h.aO,λt n e=>by rw[ef];exact h.aI t n e,h.aR,λe=>by rw[ef];exact h.aS e,λe=>by rw[ef];exact h.aK e,h.aM⟩
theorem gN.of {r':fy}(h:gN G D r)(e1:r'.id=r.id)(e2:r'.aA=r.aA)(e3:r'.aI=r.aI)(e4:r'.aD=r.aD)(e5:r'.aE=r.aE)(e6:r'.aJ=r.aJ)(e7:r'.aC=r.aC):gN G D r':=by obtain⟨id,hard,commit,applied,role,leader,elapsed,timeout,granted,flows,round,beat⟩:=r;obtain⟨id',hard',commit',applied',role',leader',elapsed',timeout',granted',flows',round',beat'⟩:=r';simp only at e1 e2 e3 e4 e5 e6 e7;subst e1 e2 e3 e4 e5 e6 e7;exact⟨h.id,h.on,h.aD,h.aG,h.le,h.aL,h.aH,h.aA,h.aF,h.aC,h.aE,h.aJ,h.aQ,h.aN,h.aO,h.aI,h.aR,h.aS,h.aK,h.aM⟩
theorem gN.aT (h:gN G D r)(l:Int):gN G D (r.aW l):=
 ⟨h.id,h.on,h.aD,h.aG,h.le,h.aL,h.aH,h.aA,h.aF,h.aC,h.aE,h.aJ,h.aQ,h.aN,h.aO,h.aI,.inl rfl,(λe=>by cases e),(λe=>by cases e),(λf hf=>by cases hf)⟩
theorem gN.up (h:gN G D r){t:Int}(ht:r.aA.aC<t)(u:t<=G.aH)(l:Int):gN G D (({r with aA:={r.aA with aC:=t,aF:=0}}:fy).aW l):=
 ⟨⟨h.id.1,u⟩,h.on,h.aD,h.aG,λe he=>by have:=h.le e he;show e.aA<=t;omega,h.aL,h.aH,h.aA,h.aF,h.aC.aA (Int.le_of_lt ht) (W9 _),by show 0<=t;have:=h.aE;omega,
  λt' w e=>⟨by have:=(h.aJ t' w e).1;show t'<=t;omega,λz=>by have:=(h.aJ t' w e).1;have z':t'=t:=z;omega⟩,λe=>absurd rfl e,λt' L e=>by have:=h.aN t' L e;show t'<=t;omega,
  λt' x e hx=>by have:=h.aO t' x e hx;show t'<=t;omega,λt' n e=>⟨by have:=(h.aI t' n e).1;show t'<=t;omega,λx hx=>((h.aI t' n e).2 x hx).imp (λz=>z) λ⟨s,y,y1,y2,y3⟩=>⟨s,y,y1,(by show s<=t;omega),y3⟩⟩,
  .inl rfl,(λe=>by cases e),(λe=>by cases e),(λf hf=>by cases hf)⟩
theorem Rm {x:fP}(u:x.aA.on D)(cf:x.aD=jh G.c0 (D.take x.aA.aA.toNat)):x.of.1=jh G.c0 (gU D x.aA)/\(x.of.2<=x.aA.aA/\gi (gU D x.aA)<=x.aA.aA.toNat\/x.of.2=gi (gU D x.aA)):=by
 have key:∀es:Es,(kF es es.length=none->jh G.c0 (D.take x.aA.aA.toNat++es)=jh G.c0 (D.take x.aA.aA.toNat)/\gi (D.take x.aA.aA.toNat++es)=gi (D.take x.aA.aA.toNat)) /\
   (∀c k,kF es es.length=some (c,k)->jh G.c0 (D.take x.aA.aA.toNat++es)=c/\gi (D.take x.aA.aA.toNat++es)=(D.take x.aA.aA.toNat).length+k+1):=by
  intro es;induction es using zM with
  | h0=>exact⟨λ_=>by simp,λc k e=>by cases e⟩
  | h1 es e ih=>
   rw[Du,<-Xl,yN,yL];by_cases ce:e.aE;·rw[WW ce,WW ce,WW ce];refine⟨λz=>(by cases z),λc k z=>?_⟩;cases z;exact⟨rfl,ς⟩
   ·rw[WY ce,WY ce,WY ce];exact ih
 obtain⟨k1,k2⟩:=key x.aA.es;have hb:=u.aA;unfold fP.of fP.aK;cases e:kF x.aA.es x.aA.es.length with
 | none=>
  obtain⟨a,b⟩:=k1 e;refine⟨?_,.inl ⟨W9 _,?_⟩⟩;·show x.aD=jh G.c0 (gU D x.aA);unfold gU;rw[a];exact cf
  ·show gi (gU D x.aA)<=_;unfold gU;rw[b];have:=nS (D.take x.aA.aA.toNat);rw[u.aC]at this;exact this
 | some p=>
  obtain⟨c,k⟩:=p;obtain⟨a,b⟩:=k2 c k e;refine⟨?_,.inr ?_⟩;·show c=jh G.c0 (gU D x.aA);unfold gU;rw[a]
  ·show x.aA.aA+1+k=gi (gU D x.aA);unfold gU;rw[b,u.aC];omega
theorem gN.aZ (h:gN G D r):r.aA.of.1=jh G.c0 (gj D r)/\(r.aA.of.2<=r.aA.aA.aA/\gi (gj D r)<=r.aA.aA.aA.toNat\/r.aA.of.2=gi (gj D r)):=Rm h.on h.aL
theorem gN.aU (h:gN G D r):r.aN=jh G.c0 (gj D r):=h.aZ.1
theorem gN.aP (h:gN G D r):((gj D r).length:Int)=r.aA.aA.aC:=h.on.aH
theorem gN.bC (ok:G.ok)(h:gN G D r){c:Int}{L:Es}(hv:r.aA.aF=0)(I:c≠0)(hc:G.aG r.aA.aC c=some L)(hn:tD L (gj D r))(hr:r.aE=0\/r.aE=2):
  ∃G',G'.ok/\jJ r.id G G'/\(G'.aA=G.aA/\G'.aH=G.aH)/\(∃w,G'.aC r.aA.aC r.id=some w/\w.aC=c)/\gN G' D {r with aA:={r.aA with aF:=c}}:=by
 have no:G.aC r.aA.aC r.id=none:=by
  cases e:G.aC r.aA.aC r.id with
  | none=>rfl
  | some w=>have:=(h.aJ _ w e).2 rfl;omega
 obtain⟨gv,E⟩:∃gv:Int->Int->Option Al,gv=λt v=>if t=r.aA.aC/\v=r.id then some ⟨c,gj D r,(G.aA r.aA.aC).isSome⟩ else G.aC t v:=⟨_,rfl⟩
 have sub:∀t v w,G.aC t v=some w->gv t v=some w:=λt v w e=>by
  rw[E];simp only;by_cases z:t=r.aA.aC/\v=r.id;·rw[z.1,z.2,no]at e;cases e
  ·rw[WY z];exact e
 have u:∀t v w,gv t v=some w->(t=r.aA.aC/\v=r.id/\w=⟨c,gj D r,(G.aA r.aA.aC).isSome⟩)\/G.aC t v=some w:=λt v w e=>by
  rw[E]at e;simp only at e;by_cases z:t=r.aA.aC/\v=r.id;·rw[WW z]at e;injection e with e;exact .inl ⟨z.1,z.2,e.symm⟩
  ·rw[WY z]at e;exact .inr e
 have new:gv r.aA.aC r.id=some ⟨c,gj D r,(G.aA r.aA.aC).isSome⟩:=by rw[E];simp
 refine⟨⟨G.c0,G.aA,gv,G.aG,G.aE,G.aD,G.aH⟩,⟨ok.aK,ok.aH,λt x e=>?_,λt v w e=>?_,ok.aE,ok.aJ,λt v n t' w x e1 e2 e3 e4=>?_,λt v w e=>?_,λt v w e hl=>?_,ok.aG,ok.aC,ok.aO,ok.aD⟩,⟨rfl,λt x e=>⟨x.l,e,Yp _,λ_=>rfl⟩,λt x e1 e2=>(by have e1:G.aA t=some x:=e1;rw[e2]at e1;cases e1),sub,λt v hv=>(by show gv t v=_;rw[E];simp[hv]),λ_ _ _ e=>e,λ_ _ _=>rfl,λ_ _ _ e=>e,λ_ _ _ _ e=>e,λ_ e=>e,W9 _⟩,⟨rfl,rfl⟩,⟨_,new,rfl⟩,?_⟩;·obtain⟨a1,a2,a3,a4,a5,a6⟩:=ok.aA t x e;obtain⟨Q,q1,q2⟩:=a6.aC;exact⟨a1,a2,a3,a4,a5,a6.aA,a6.aD,a6.lt,Q,q1,λv hv=>let⟨w,w1,w2⟩:=q2 v hv;⟨w,sub _ _ _ w1,w2⟩⟩
 ·rcases u t v w e with⟨rfl,rfl,rfl⟩ | e;·exact⟨h.aD,h.aG⟩
  ·exact ok.aI t v w e
 ·rcases u t' v w e2 with⟨rfl,rfl,rfl⟩ | e2
  ·refine ((h.aI t n e1).2 x e4).imp (λz=>z) λ⟨s,y,y1,y2,y3,y4⟩=>⟨s,y,y1,?_,y3,y4⟩;by_cases z:s<r.aA.aC;·exact .inl z
   ·have z:s=r.aA.aC:=ω;exact .inr ⟨by rw[<-z,y3];rfl,z⟩
  ·exact ok.aL t v n t' w x e1 e2 e3 e4
 ·rcases u t v w e with⟨rfl,rfl,rfl⟩ | e;·exact⟨L,hc,hn⟩
  ·exact ok.aM t v w e
 ·rcases u t v w e with⟨rfl,rfl,rfl⟩ | e;·exact Y6.1 hl
  ·exact ok.aN t v w e hl
 ·refine⟨h.id,h.on,h.aD,h.aG,h.le,h.aL,h.aH,h.aA,h.aF,h.aC,h.aE,λt w e=>?_,λ_=>⟨_,new,rfl⟩,h.aN,h.aO,h.aI,h.aR,λe=>?_,h.aK,h.aM⟩
  ·rcases u t _ w e with⟨rfl,_,rfl⟩ | e;·exact⟨W9 _,λ_=>⟨rfl,I⟩⟩
   ·refine⟨(h.aJ t w e).1,λz=>?_⟩;have z':t=r.aA.aC:=z;rw[z',no]at e;cases e
  ·have e:r.aE=1:=e;omega
theorem gN.bJ (ok:G.ok)(h:gN G D r)(h0:r.id≠0)(tm el:Int):
  ∃G',G'.ok/\jJ r.id G G'/\G'.aA=G.aA/\G'.aH<=G.aH+1/\G'.aG (r.aA.aC+1) r.id=some (gj D r)/\gN G' D {r with aA:={r.aA with aC:=r.aA.aC+1,aF:=r.id},aE:=1,aR:=0,aF:=el,aT:=tm,aC:=[],aJ:=[r.id]}:=by
 have h00:=h.aE;have no:G.aC (r.aA.aC+1) r.id=none:=by
  cases e:G.aC (r.aA.aC+1) r.id with
  | none=>rfl
  | some w=>have:=(h.aJ _ w e).1;omega
 have Z:G.aG (r.aA.aC+1) r.id=none:=by
  cases e:G.aG (r.aA.aC+1) r.id with
  | none=>rfl
  | some w=>have:=h.aN _ w e;omega
 obtain⟨gv,U⟩:∃gv:Int->Int->Option Al,gv=λt v=>if t=r.aA.aC+1/\v=r.id then some ⟨r.id,gj D r,(G.aA (r.aA.aC+1)).isSome⟩ else G.aC t v:=⟨_,rfl⟩
 obtain⟨cd,W⟩:∃cd:Int->Int->Option Es,cd=λt v=>if t=r.aA.aC+1/\v=r.id then some (gj D r) else G.aG t v:=⟨_,rfl⟩
 have sub:∀t v w,G.aC t v=some w->gv t v=some w:=λt v w e=>by
  rw[U];simp only;by_cases z:t=r.aA.aC+1/\v=r.id;·rw[z.1,z.2,no]at e;cases e
  ·rw[WY z];exact e
 have E:∀t v w,G.aG t v=some w->cd t v=some w:=λt v w e=>by
  rw[W];simp only;by_cases z:t=r.aA.aC+1/\v=r.id;·rw[z.1,z.2,Z]at e;cases e
  ·rw[WY z];exact e
 have O:∀t v w,gv t v=some w->(t=r.aA.aC+1/\v=r.id/\w=⟨r.id,gj D r,(G.aA (r.aA.aC+1)).isSome⟩)\/G.aC t v=some w:=λt v w e=>by
  rw[U]at e;simp only at e;by_cases z:t=r.aA.aC+1/\v=r.id;·rw[WW z]at e;injection e with e;exact .inl ⟨z.1,z.2,e.symm⟩
  ·rw[WY z]at e;exact .inr e
 have I:∀t v w,cd t v=some w->(t=r.aA.aC+1/\v=r.id/\w=gj D r)\/G.aG t v=some w:=λt v w e=>by
  rw[W]at e;simp only at e;by_cases z:t=r.aA.aC+1/\v=r.id;·rw[WW z]at e;injection e with e;exact .inl ⟨z.1,z.2,e.symm⟩
  ·rw[WY z]at e;exact .inr e
 have new:gv (r.aA.aC+1) r.id=some ⟨r.id,gj D r,(G.aA (r.aA.aC+1)).isSome⟩:=by rw[U];simp
 have u:cd (r.aA.aC+1) r.id=some (gj D r):=by rw[W];simp
 refine⟨⟨G.c0,G.aA,gv,cd,G.aE,G.aD,max G.aH (r.aA.aC+1)⟩,⟨ok.aK,ok.aH,λt x e=>?_,λt v w e=>?_,ok.aE,ok.aJ,λt v n t' w x e1 e2 e3 e4=>?_,λt v w e=>?_,λt v w e hl=>?_,λt v L e=>?_,ok.aC,ok.aO,ok.aD⟩,⟨rfl,λt x e=>⟨x.l,e,Yp _,λ_=>rfl⟩,λt x e1 e2=>(by have e1:G.aA t=some x:=e1;rw[e2]at e1;cases e1),sub,λt v hv=>(by show gv t v=_;rw[U];simp[hv]),E,λt v hv=>(by show cd t v=_;rw[W];simp[hv]),λ_ _ _ e=>e,λ_ _ _ _ e=>e,λ_ e=>e,by show G.aH<=max _ _;omega⟩,rfl,by show max _ _<=_;have:=h.id.2;omega,u,?_⟩;·obtain⟨a1,a2,a3,a4,a5,a6⟩:=ok.aA t x e;obtain⟨Q,q1,q2⟩:=a6.aC;exact⟨a1,a2,a3,a4,a5,a6.aA,a6.aD,a6.lt,Q,q1,λv hv=>let⟨w,w1,w2⟩:=q2 v hv;⟨w,sub _ _ _ w1,w2⟩⟩
 ·rcases O t v w e with⟨rfl,rfl,rfl⟩ | e;·exact⟨h.aD,h.aG⟩
  ·exact ok.aI t v w e
 ·rcases O t' v w e2 with⟨rfl,rfl,rfl⟩ | e2;·refine ((h.aI t n e1).2 x e4).imp (λz=>z) λ⟨s,y,y1,y2,y3,y4⟩=>⟨s,y,y1,.inl ω,y3,y4⟩
  ·exact ok.aL t v n t' w x e1 e2 e3 e4
 ·rcases O t v w e with⟨rfl,rfl,rfl⟩ | e;·exact⟨_,u,.inr ⟨rfl,WX _⟩⟩
  ·obtain⟨L,l1,l2⟩:=ok.aM t v w e;exact⟨L,E _ _ _ l1,l2⟩
 ·rcases O t v w e with⟨rfl,rfl,rfl⟩ | e;·exact Y6.1 hl
  ·exact ok.aN t v w e hl
 ·rcases I t v L e with⟨rfl,rfl,rfl⟩ | e;·exact⟨h.aD,h.aG,λe he=>by have:=h.le e he;omega⟩
  ·exact ok.aG t v L e
 ·refine⟨⟨h.id.1,by show r.aA.aC+1<=max _ _;omega⟩,h.on,h.aD,h.aG,λe he=>by have:=h.le e he;show e.aA<=r.aA.aC+1;omega,h.aL,h.aH,h.aA,h.aF,h.aC.aA (by show r.aA.aC<=r.aA.aC+1;omega) (W9 _),by show 0<=r.aA.aC+1;omega,λt w e=>?_,λ_=>⟨_,new,rfl⟩,λt L e=>?_,λt x e hx=>?_,λt n e=>?_,.inr (.inl rfl),λ_=>⟨⟨by show 0<r.aA.aC+1;omega,h0⟩,u,λv hv=>?_,λx hx=>?_⟩,(λe=>by cases e),(λf hf=>by cases hf)⟩
  ·rcases O t _ w e with⟨rfl,_,rfl⟩ | e;·exact⟨W9 _,λ_=>⟨rfl,h0⟩⟩
   ·have:=(h.aJ t w e).1;exact⟨by show t<=r.aA.aC+1;omega,λz=>by have z':t=r.aA.aC+1:=z;omega⟩
  ·rcases I t _ L e with⟨rfl,_,rfl⟩ | e;·exact W9 _
   ·have:=h.aN t L e;show t<=r.aA.aC+1;omega
  ·have:t<=r.aA.aC:=h.aO t x e hx;show t<=r.aA.aC+1;omega
  ·obtain⟨a,b⟩:=h.aI t n e;exact⟨by show t<=r.aA.aC+1;omega,λx hx=>(b x hx).imp (λz=>z) λ⟨s,y,y1,y2,y3⟩=>⟨s,y,y1,(by show s<=r.aA.aC+1;omega),y3⟩⟩
  ·obtain rfl:v=r.id:=by simpa using hv
   exact⟨_,new,rfl⟩
  ·intro z;have:r.aA.aC+1<=r.aA.aC:=h.aO _ x hx z;omega
end
section
variable {G:gJ} {D:Es} {r:fy}
theorem gJ.ok.bC {G:gJ}(ok:G.ok){L:Es}(h:G.aF L){i:Nat}(hi:i<L.length):L[i].aF:=by obtain⟨x,h1,h2,-⟩:=h i hi;have e:=mO h2 (i:=i) ω;have hl:=pE h2 ω;rw[WU hi,WU ω]at e;injection e with e;rw[e];exact ok.aH _ x h1 _ (Xq _)
theorem gJ.aF.aE {G:gJ}{L:Es}{e:gw}(h:G.aF L){x:m_}(h1:G.aA e.aA=some x) (h2:L++[e]=x.l.take (L.length+1)) (h3:x.l0.length<=L.length):G.aF (L++[e]):=by
 intro i hi;by_cases c:i<L.length;·rw[YC c];obtain⟨r,r1,r2,r3⟩:=h i c;refine⟨r,r1,?_,r3⟩;rw[Xz ω];exact r2
 ·have:i=L.length:=by simp at hi;omega
  subst this;rw[YM (WX _)];simp only[ZF,YB];refine⟨x,h1,?_,h3⟩;rw[<-h2,Xu ς]
theorem TN {L : Es} {e : gw} (h : nH L) (he : ∀ a ∈ L, a.aA <= e.aA) : nH (L ++ [e]) := by
  unfold nH
  rw [List.pairwise_append]
  exact ⟨h, List.pairwise_singleton _ _, fun a ha b hb => by obtain rfl : b = e := by simpa using hb
                                                             exact he a ha⟩
def fy.bH (r:fy)(e:gw):fy:={r with aA:={r.aA with aA:=⟨r.aA.aA.aA,r.aA.aA.aD,r.aA.aA.es++[e]⟩}}
theorem OP (D:Es)(r:fy)(e:gw):gj D (r.bH e)=gj D r++[e]:=by show gU D _=gU D _++_;unfold gU fy.bH;simp only[Xl]
theorem Sg (r:fy)(e:gw):(r.bH e).aA.aA.aC=r.aA.aA.aC+1:=by unfold fy.bH fG.aC;simp;omega
theorem gJ.ok.bz (ok:G.ok){t id:Int}{L:Es}{e:gw}(w:G.aK true t id L)(he:e.aA=t)(hc:¬e.aE)(hs:e.aF)(h0:0<t)(hno:∀x,G.aA t=some x->x.id≠id):
  ∃G',G'.ok/\jJ id G G'/\G.aA t=none/\G'.aA t=some ⟨id,L,L++[e]⟩/\(∀s,s≠t->G'.aA s=G.aA s)/\G'.aC=G.aC/\G'.aG=G.aG/\G'.aE=G.aE/\G'.aD=G.aD/\G'.aH=G.aH:=by
 have none':G.aA t=none:=by
  cases e:G.aA t with
  | none=>rfl
  | some x=>exact absurd (ok.bB (ok.aA t x e).2.2.2.2.2 w) (hno x e)
 obtain⟨ld,hld⟩:∃ld:Int->Option m_,ld=λs=>if s=t then some ⟨id,L,L++[e]⟩ else G.aA s:=⟨_,rfl⟩
 have new:ld t=some ⟨id,L,L++[e]⟩:=by rw[hld];simp
 have old:∀s,s≠t->ld s=G.aA s:=λs hs=>by rw[hld];simp[hs]
 have sub:∀s x,G.aA s=some x->ld s=some x:=λs x hx=>by
  by_cases c:s=t
  ·rw[c,none']at hx;cases hx
  ·rw[old s c];exact hx
 have inv:∀s x,ld s=some x->(s=t/\x=⟨id,L,L++[e]⟩)\/G.aA s=some x:=λs x hx=>by
  by_cases c:s=t
  ·rw[c,new]at hx;injection hx with hx;exact .inl ⟨c,hx.symm⟩
  ·rw[old s c]at hx;exact .inr hx
 have g:jJ id G ⟨G.c0,ld,G.aC,G.aG,G.aE,G.aD,G.aH⟩:=⟨rfl,λs x hx=>⟨x.l,sub s x hx,Yp _,λ_=>rfl⟩,λs x h1 h2=>(by
  rcases inv s x h1 with⟨_,z⟩ | z;·rw[z]
  ·rw[h2]at z;cases z),λ_ _ _ h=>h,λ_ _ _=>rfl,λ_ _ _ h=>h,λ_ _ _=>rfl,λ_ _ _ h=>h,λ_ _ _ _ h=>h,λ_ h=>h,W9 _⟩
 have late:∀v w,G.aC t v=some w->w.aD=false:=λv w hv=>by
  cases c:w.aD with
  | false=>rfl
  | true=>obtain⟨x,hx⟩:=ok.aN t v w hv c;rw[none']at hx;cases hx
 have wf:(gJ.mk G.c0 ld G.aC G.aG G.aE G.aD G.aH).aK false t id L:=by obtain⟨Q,q1,q2⟩:=w.aC;refine⟨w.aA.aA g,w.aD,w.lt,Q,q1,λv hv=>?_⟩;obtain⟨a,a1,a2,a3,a4⟩:=q2 v hv;exact⟨a,a1,a2,(λz=>(by rw[late v a a1]at z;cases z)),a4⟩
 refine⟨gJ.mk G.c0 ld G.aC G.aG G.aE G.aD G.aH,⟨ok.aK,λs x hx=>?_,λs x hx=>?_,λs v a ha=>⟨(ok.aI s v a ha).1.aA g,(ok.aI s v a ha).2⟩,λs v n ha=>?_,ok.aJ,λs v n t' a x h1 h2 h3 h4=>?_,ok.aM,λs v a h1 h2=>?_,λs v M hM=>⟨(ok.aG s v M hM).1.aA g,(ok.aG s v M hM).2⟩,λc hc=>?_,ok.aO,λs x hx j hj hcj hl=>?_⟩,g,none',new,old,rfl,rfl,rfl,rfl,rfl⟩
 ·rcases inv s x hx with⟨rfl,rfl⟩ | hx
  ·intro a ha;rcases Xe.1 ha with ha | ha;·obtain⟨i,hi,rfl⟩:=YV.1 ha;exact ok.bC w.aA hi
   ·obtain rfl:a=e:=by simpa using ha
    exact hs
  ·exact ok.aH s x hx
 ·rcases inv s x hx with⟨rfl,rfl⟩ | hx
  ·refine⟨h0,List.prefix_append _ _,ς,λi hi hl=>?_,?_,wf⟩
   ·have:i=L.length:=by simp at hi;have hl':L.length<=i:=hl;omega
    subst this;simp only;rw[YM (WX _)];simpa using he
   ·exact (w.aA.aA g).aE (x:=⟨id,L,L++[e]⟩) (by rw[he];exact new) (by rw[Xu ς]) (WX _)
  ·obtain⟨a1,a2,a3,a4,a5,a6⟩:=ok.aA s x hx;exact⟨a1,a2,a3,a4,a5.aA g,a6.aA.aA g,a6.aD,a6.lt,a6.aC⟩
 ·obtain⟨x,h1,h2⟩:=ok.aE s v n ha;exact⟨x,sub s x h1,h2⟩
 ·rcases inv s x h4 with⟨rfl,rfl⟩ | h4;·obtain⟨y,h5,-⟩:=ok.aE _ v n h1;rw[none']at h5;cases h5
  ·exact (ok.aL s v n t' a x h1 h2 h3 h4).imp (λz=>z) λ⟨q,y,y1,y2,y3,y4⟩=>⟨q,y,y1,y2,sub _ _ y3,y4⟩
 ·obtain⟨x,hx⟩:=ok.aN s v a h1 h2;exact⟨x,sub _ _ hx⟩
 ·obtain⟨x,h1,h2⟩:=ok.aC c hc;exact⟨x,sub _ _ h1,h2⟩
 ·rcases inv s x hx with⟨rfl,rfl⟩ | hx
  ·have:j=L.length:=by simp at hj;have hl':L.length<=j:=hl;omega
   subst this;simp only at hcj;rw[YM (WX _)]at hcj;exact absurd (by simpa using hcj) hc
  ·exact ok.aD s x hx j hj hcj hl
theorem gJ.ok.a_ (ok:G.ok){t id:Int}{l0 L:Es}{e:gw}(hl:G.aA t=some ⟨id,l0,L⟩)(he:e.aA=t)(hs:e.aF)
  (hc:e.aE->qY (jh G.c0 L) (iG e.aD).1/\(gi L=0\/∃c'∈G.aD,gi L<=c'.n/\c'.t<=t/\c'.l.take (gi L)=L.take (gi L))):
  ∃G',G'.ok/\jJ id G G'/\G'.aA t=some ⟨id,l0,L++[e]⟩/\(∀s,s≠t->G'.aA s=G.aA s)/\G'.aC=G.aC/\G'.aG=G.aG/\G'.aE=G.aE/\G'.aD=G.aD/\G'.aH=G.aH:=by
 obtain⟨ld,hld⟩:∃ld:Int->Option m_,ld=λs=>if s=t then some ⟨id,l0,L++[e]⟩ else G.aA s:=⟨_,rfl⟩
 have new:ld t=some ⟨id,l0,L++[e]⟩:=by rw[hld];simp
 have old:∀s,s≠t->ld s=G.aA s:=λs hs=>by rw[hld];simp[hs]
 have inv:∀s x,ld s=some x->(s=t/\x=⟨id,l0,L++[e]⟩)\/(s≠t/\G.aA s=some x):=λs x hx=>by
  by_cases c:s=t
  ·rw[c,new]at hx;injection hx with hx;exact .inl ⟨c,hx.symm⟩
  ·rw[old s c]at hx;exact .inr ⟨c,hx⟩
 have g:jJ id G ⟨G.c0,ld,G.aC,G.aG,G.aE,G.aD,G.aH⟩:=by
  refine⟨rfl,λs x hx=>?_,λs x h1 h2=>?_,λ_ _ _ h=>h,λ_ _ _=>rfl,λ_ _ _ h=>h,λ_ _ _=>rfl,λ_ _ _ h=>h,λ_ _ _ _ h=>h,λ_ h=>h,W9 _⟩
  ·by_cases c:s=t
   ·subst c;rw[hl]at hx;injection hx with hx;subst hx;exact⟨_,new,List.prefix_append _ _,λz=>absurd rfl z⟩
   ·exact⟨x.l,(old s c).trans hx,Yp _,λ_=>rfl⟩
  ·rcases inv s x h1 with⟨z,-⟩ | ⟨_,z⟩;·rw[z,hl]at h2;cases h2
   ·rw[h2]at z;cases z
 have sub:∀s x,G.aA s=some x->∃y,ld s=some y/\y.id=x.id/\y.l0=x.l0/\x.l<+:y.l:=λs x hx=>by obtain⟨l',h1,h2,-⟩:=g.aA s x hx;exact⟨_,h1,rfl,rfl,h2⟩
 obtain⟨b1,b2,b3,b4,b5,b6⟩:=ok.aA t _ hl;refine⟨gJ.mk G.c0 ld G.aC G.aG G.aE G.aD G.aH,⟨ok.aK,λs x hx=>?_,λs x hx=>?_,λs v a ha=>⟨(ok.aI s v a ha).1.aA g,(ok.aI s v a ha).2⟩,λs v n ha=>?_,ok.aJ,λs v n t' a x h1 h2 h3 h4=>?_,ok.aM,λs v a h1 h2=>?_,λs v M hM=>⟨(ok.aG s v M hM).1.aA g,(ok.aG s v M hM).2⟩,λc hc'=>?_,ok.aO,λs x hx j hj hcj hlj=>?_⟩,g,new,old,rfl,rfl,rfl,rfl,rfl⟩
 ·rcases inv s x hx with⟨rfl,rfl⟩ | ⟨-,hx⟩
  ·intro a ha;rcases Xe.1 ha with ha | ha;·exact ok.aH _ _ hl a ha
   ·obtain rfl:a=e:=by simpa using ha
    exact hs
  ·exact ok.aH s x hx
 ·rcases inv s x hx with⟨rfl,rfl⟩ | ⟨-,hx⟩
  ·refine⟨b1,b2.trans (List.prefix_append _ _),by have:l0.length<L.length:=b3;simp;omega,λi hi hli=>?_,?_,b6.aA.aA g,b6.aD,b6.lt,b6.aC⟩
   ·by_cases c:i<L.length
    ·simp only;rw[YC c];exact b4 i c hli
    ·have:i=L.length:=by simp at hi;omega
     subst this;simp only;rw[YM (WX _)];simpa using he
   ·exact (b5.aA g).aE (x:=⟨id,l0,L++[e]⟩) (by rw[he];exact new) (by rw[Xu ς]) (Nat.le_of_lt b3)
  ·obtain⟨a1,a2,a3,a4,a5,a6⟩:=ok.aA s x hx;exact⟨a1,a2,a3,a4,a5.aA g,a6.aA.aA g,a6.aD,a6.lt,a6.aC⟩
 ·obtain⟨x,h1,h2⟩:=ok.aE s v n ha;obtain⟨y,y1,-,-,y2⟩:=sub s x h1;exact⟨y,y1,by have:=y2.length_le;omega⟩
 ·obtain⟨x0,h5,h6⟩:=ok.aE s v n h1;obtain⟨y,y1,-,-,y2⟩:=sub s x0 h5;have h4:ld s=some x:=h4;rw[y1]at h4;injection h4 with h4;subst h4;rw[js y2 h6];exact (ok.aL s v n t' a x0 h1 h2 h3 h5).imp (λz=>z) λ⟨q,z,z1,z2,z3,z4⟩=>let⟨z',w1,_,w2,_⟩:=sub q z z3;⟨q,z',z1,z2,w1,by rw[w2];exact z4⟩
 ·obtain⟨x,hx⟩:=ok.aN s v a h1 h2;obtain⟨y,y1,-⟩:=sub s x hx;exact⟨y,y1⟩
 ·obtain⟨x,h1,h2,h3,h4⟩:=ok.aC c hc';obtain⟨y,y1,-,y2,y3⟩:=sub _ x h1;exact⟨y,y1,h2.trans y3,by rw[y2];exact h3,h4⟩
 ·rcases inv s x hx with⟨rfl,rfl⟩ | ⟨-,hx⟩
  ·simp only at hj hcj hlj ⊢;by_cases c:j<L.length;·rw[YC c]at hcj;rw[Xz ω,Xz ω];obtain⟨c1,c2⟩:=ok.aD _ _ hl j c hcj hlj;refine⟨c1,c2.imp (λz=>z) λ⟨c',d1,d2,d3,d4⟩=>⟨c',d1,d2,d3,?_⟩⟩;rw[Xz (by have:=nS (L.take j);simp only[W7]at this;omega)];exact d4
   ·have:j=L.length:=by simp at hj;omega
    subst this;rw[YM (WX _)]at hcj;simp only[ZF,YB]at hcj;obtain⟨c1,c2⟩:=hc hcj;rw[Xz (WX _),Xu (WX _),Xu ς,yN,WW hcj];refine⟨c1,c2.imp (λz=>z) λ⟨c',d1,d2,d3,d4⟩=>⟨c',d1,d2,d3,?_⟩⟩;rw[Xz (nS _)];exact d4
  ·exact ok.aD s x hx j hj hcj hlj
theorem gJ.ok.aU (ok:G.ok){t id:Int}{n:Nat}{x:m_}(hx:G.aA t=some x)(hn:n<=x.l.length)(hg:∀s w,G.aC s id=some w->s<=t):
  (gJ.mk G.c0 G.aA G.aC G.aG (λs v m=>G.aE s v m\/(s=t/\v=id/\m<=n)) G.aD G.aH).ok/\jJ id G (gJ.mk G.c0 G.aA G.aC G.aG (λs v m=>G.aE s v m\/(s=t/\v=id/\m<=n)) G.aD G.aH):=by
 refine⟨⟨ok.aK,ok.aH,λs y hy=>(let⟨a1,a2,a3,a4,a5,a6⟩:=ok.aA s y hy;⟨a1,a2,a3,a4,a5,a6.aA,a6.aD,a6.lt,a6.aC⟩),ok.aI,λs v m h=>?_,λs v m m' h hm=>?_,λs v m t' a y h1 h2 h3 h4=>?_,ok.aM,ok.aN,ok.aG,λc hc=>?_,ok.aO,ok.aD⟩,⟨rfl,λs y hy=>⟨y.l,hy,Yp _,λ_=>rfl⟩,λs y h1 h2=>(by have h1:G.aA s=some y:=h1;rw[h2]at h1;cases h1),λ_ _ _ h=>h,λ_ _ _=>rfl,λ_ _ _ h=>h,λ_ _ _=>rfl,λ_ _ _ h=>.inl h,λs v m hv h=>h.resolve_right (λz=>hv z.2.1),λ_ h=>h,W9 _⟩⟩
 ·rcases h with h | ⟨rfl,rfl,h⟩;·exact ok.aE s v m h
  ·exact⟨x,hx,ω⟩
 ·exact h.imp (λz=>ok.aJ s v m m' z hm) λ⟨a,b,c⟩=>⟨a,b,ω⟩
 ·rcases h1 with h1 | ⟨rfl,rfl,h1⟩;·exact ok.aL s v m t' a y h1 h2 h3 h4
  ·have:=hg t' a h2;omega
 ·obtain⟨y,h1,h2,h3,h4,Q,q1,q2⟩:=ok.aC c hc;exact⟨y,h1,h2,h3,h4,Q,q1,λv hv=>.inl (q2 v hv)⟩
theorem gJ.ok.aW (ok:G.ok){L:Es}(hL:G.aF L){t:Int}(ht:∀e∈L,e.aA<=t){p:Nat}(hp:p<L.length) (hc:L[p].aE) (hlt:p+1<gi L):
  ∃c'∈G.aD,p+1<=c'.n/\c'.t<=t/\c'.l.take (p+1)=L.take (p+1):=by
 have hl:=nS L;obtain⟨g1,g2⟩:=(rJ L).2 ω;obtain⟨x,s1,s2,s3⟩:=hL _ g1;have hr:=pE s2 ω;have e:=mO s2 (i:=gi L-1) ω;rw[WU g1,WU ω]at e;injection e with e;have cf:=(ok.aD _ x s1 (gi L-1) ω (e▸g2) s3).2;have e2:x.l.take (gi L-1)=L.take (gi L-1):=(mi s2 ω).symm;have h1:p+1<=gi (L.take (gi L-1)):=by refine Dq (l:=L.take (gi L-1)) (k:=p) (by simp only[W7];omega) ?_;rw[YA];exact hc
 rw[e2]at cf;obtain⟨d,d1,d2,d3,d4⟩:=cf.resolve_left ω;have h2:=nS (L.take (gi L-1));simp only[W7]at h2;have h3:=ht _ (Xq g1);refine⟨d,d1,ω,ω,mi (d4.trans (mi s2 ω).symm) h1⟩
theorem gJ.ok.aV (ok:G.ok){t id:Int}{l0 L:Es}(hl:G.aA t=some ⟨id,l0,L⟩)(ht:∀e∈L,e.aA<=t){n:Nat}(h0:l0.length<n)(hn:n<=L.length){Q:List Int}(hq:(jh G.c0 L).aE Q=true)(ha:∀v∈Q,G.aE t v n):
  (gJ.mk G.c0 G.aA G.aC G.aG G.aE (⟨t,n,L⟩ :: G.aD) G.aH).ok/\jJ id G (gJ.mk G.c0 G.aA G.aC G.aG G.aE (⟨t,n,L⟩ :: G.aD) G.aH):=by
 refine⟨⟨ok.aK,ok.aH,λs y hy=>(let⟨a1,a2,a3,a4,a5,a6⟩:=ok.aA s y hy;⟨a1,a2,a3,a4,a5,a6.aA,a6.aD,a6.lt,a6.aC⟩),ok.aI,ok.aE,ok.aJ,ok.aL,ok.aM,ok.aN,ok.aG,λc hc=>?_,λa c b e p hp u hlt=>?_,λs x hx j hj I E=>?_⟩,⟨rfl,λs y hy=>⟨y.l,hy,Yp _,λ_=>rfl⟩,λs y h1 h2=>(by have h1:G.aA s=some y:=h1;rw[h2]at h1;cases h1),λ_ _ _ h=>h,λ_ _ _=>rfl,λ_ _ _ h=>h,λ_ _ _=>rfl,λ_ _ _ h=>h,λ_ _ _ _ h=>h,λc h=>XY _ h,W9 _⟩⟩
 ·rcases XC.1 hc with rfl | hc;·exact⟨_,hl,Yp _,h0,hn,Q,hq,ha⟩
  ·exact ok.aC c hc
 ·cases a with
  | nil=>simp only[Yg,Yv]at e;obtain⟨rfl,rfl⟩:=e;exact ok.aW (ok.aA _ _ hl).2.2.2.2.1 ht hp u hlt
  | cons a0 a=>simp only[Zj,Yv]at e;exact ok.aO a c b e.2 p hp u hlt
 ·obtain⟨c1,c2⟩:=ok.aD s x hx j hj I E;exact⟨c1,c2.imp (λz=>z) λ⟨c',d1,d2⟩=>⟨c',XY _ d1,d2⟩⟩
end
theorem gJ.ok.aP {G:gJ}(ok:G.ok){t:Int}{x:m_}(hx:G.aA t=some x):nH x.l/\∀e∈x.l,e.aA<=t:=by
 obtain⟨-,a2,a3,a4,-,a6⟩:=ok.aA t x hx;have u:∀e∈x.l,e.aA<=t:=by
  intro e he;obtain⟨i,hi,rfl⟩:=YV.1 he;by_cases c:x.l0.length<=i;·exact Int.le_of_eq (a4 i hi c)
  ·have e1:=mO (js a2 (n:=i+1) ω) (i:=i) ω;rw[WU hi,WU ω]at e1;injection e1 with e1;rw[e1];exact Int.le_of_lt (a6.lt _ (Xq _))
 refine⟨?_,u⟩;unfold nH;rw[YK];intro i j hi hj E;by_cases c:x.l0.length<=j;·rw[a4 j hj c];exact u _ (Xq _)
 ·have e:∀k,(hk:k<x.l0.length)->∃h:k<x.l.length,x.l[k]=x.l0[k]:=λk hk=>by have e1:=mO (js a2 (n:=k+1) ω) (i:=k) ω;rw[WU ω,WU hk]at e1;injection e1 with e1;exact⟨ω,e1⟩
  obtain⟨_,e1⟩:=e i ω;obtain⟨_,e2⟩:=e j ω;rw[e1,e2];exact EF a6.aD (Nat.le_of_lt E) ω
def gJ.aJ (G:gJ)(B:Nat):Prop:=(∀t w,G.aA t=some w->w.l.length<=B)/\G.aH<=B
theorem gJ.aJ.aA {G:gJ}{B B':Nat}(h:G.aJ B)(hb:B<=B'):G.aJ B':=⟨λt w hw=>Xg (h.1 t w hw) hb,by have:=h.2;omega⟩
theorem gJ.aJ.aC {G:gJ}{B:Nat}(h:G.aJ B){L:Es}(hL:G.aF L):L.length<=B:=by
 by_cases c:L.length=0
 ·omega
 ·obtain⟨y,h1,h2,-⟩:=hL (L.length-1) ω;have:=pE h2 ω;have:=h.1 _ y h1;omega
section
variable {G G':gJ} {D:Es} {r r':fy}
theorem gN.aX (g:jJ r.id G G')(h:gN G D r){e:gw}{l0:Es} (hl:G'.aA r.aA.aC=some ⟨r.id,l0,gj D r++[e]⟩) (I:G'.ok) (old:∀s,s≠r.aA.aC->G'.aA s=G.aA s) (hg:G'.aC=G.aC) (O:G'.aG=G.aG) (E:G'.aE=G.aE) (he:e.aA=r.aA.aC)
  (e1:r'.id=r.id) (e2:r'.aA=(r.bH e).aA) (e3:r'.aI=r.aI) (e4:r'.aD=r.aD) (e5:r'.aE=2) (e7:∀f∈r'.aC,f∈r.aC\/(f.aD=r.aA.aA.aC+1/\f.aC=0)):gN G' D r':=by
 have ef:gj D r'=gj D r++[e]:=by rw[<-OP];show gU D _=gU D _;rw[e2]
 have hh:r'.aA.aC=r.aA.aC/\r'.aA.aF=r.aA.aF/\r'.aA.aA.aA=r.aA.aA.aA/\r'.aA.aA.aD=r.aA.aA.aD/\r'.aA.aD=r.aA.aD/\r'.aA.aG=r.aA.aG/\r'.aA.aA.aC=r.aA.aA.aC+1:=by rw[e2];exact⟨rfl,rfl,rfl,rfl,rfl,rfl,Sg r e⟩
 obtain⟨ht,hv,hb,U,hc,hs,u⟩:=hh;have hlen:=h.aP;have at0:=h.aA;have W:=h.on.aA;have tk:∀n:Int,n<=r.aA.aA.aC->(gj D r').take n.toNat=(gj D r).take n.toNat:=λn hn=>by rw[ef,Xz ω]
 have fe:G'.aF (gj D r'):=by rw[ef];have:=(I.aA _ _ hl).2.2.2.2.1;exact this
 refine⟨⟨by rw[e1];exact h.id.1,by rw[ht];exact Y9 h.id.2 g.aD⟩,⟨by rw[hb];exact W,by rw[hb,U];exact h.on.aE⟩,fe,?_,?_,by rw[hc,hb,g.c0];exact h.aL,by rw[hs];exact h.aH,by rw[hb,e3,e4,u];omega,⟨by rw[e3,tk _ ω];exact h.aF.1,by rw[e3];exact h.aF.2⟩,?_,by rw[ht];exact h.aE,λt w z=>?_,λz=>?_,λt L z=>?_,λt x z hx=>?_,λt n z=>?_,.inr (.inr e5),(λz=>by rw[e5]at z;cases z),λ_=>⟨l0,by rw[ht,e1,ef];exact hl⟩,λf hf=>?_⟩;·rw[ef];exact TN h.aG (λa ha=>by rw[he];exact h.le a ha)
 ·rw[ef,ht];intro a ha;rcases Xe.1 ha with ha | ha;·exact h.le a ha
  ·obtain rfl:a=e:=by simpa using ha
   omega
 ·rw[ht,e4];exact (h.aC.aC g).of (tk _ ω)
 ·rw[e1,hg]at z;rw[ht,hv];exact h.aJ t w z
 ·rw[hv]at z;rw[e1,ht,hg,hv];exact h.aQ z
 ·rw[e1,O]at z;rw[ht];exact h.aN t L z
 ·rw[e1]at hx;rw[ht];by_cases c:t=r.aA.aC;·omega
  ·rw[old t c]at z;exact h.aO t x z hx
 ·rw[e1,E]at z;rw[ht,ef];obtain⟨a1,a2⟩:=h.aI t n z;refine⟨a1,λx hx=>?_⟩;by_cases c:t=r.aA.aC;·rw[c,hl]at hx;injection hx with hx;subst hx;exact .inl (YZ _ _)
  ·rw[old t c]at hx;refine (a2 x hx).imp (λz=>z.trans (List.prefix_append _ _)) λ⟨s,y,y1,y2,y3,y4⟩=>?_;obtain⟨l',w1,-,-⟩:=g.aA s y y3;exact⟨s,_,y1,y2,w1,y4⟩
 ·rw[u,ht,E];rcases e7 f hf with z | ⟨z1,z2⟩;·obtain⟨a1,a2,a3⟩:=h.aM f z;exact⟨⟨a1.1,ω⟩,⟨a2.1,ω⟩,a3⟩
  ·have:0<=r.aA.aA.aC:=ω;exact⟨⟨ω,ω⟩,⟨ω,ω⟩,.inl z2⟩
theorem gN.bG (ok:G.ok)(h:gN G D r)(h1:r.aE=1)(hw:r.aN.aE r.aJ=true){e:gw}(he:e.aA=r.aA.aC)(hs:e.aF)(hc:¬e.aE):
  ∃G',G'.ok/\jJ r.id G G'/\(∀B,G.aJ B->G'.aJ (B+1))/\∀r':fy,r'.id=r.id->r'.aA=(r.bH e).aA->r'.aI=r.aI->r'.aD=r.aD->r'.aE=2->(∀f∈r'.aC,f∈r.aC\/(f.aD=r.aA.aA.aC+1/\f.aC=0))->gN G' D r':=by
 obtain⟨⟨r0,-⟩,r1,r2,r3⟩:=h.aS h1;have cd:=ok.aG _ _ _ r1;have w:G.aK true r.aA.aC r.id (gj D r):=by refine⟨h.aD,h.aG,cd.2.2,r.aJ,by rw[<-h.aU];exact hw,λv hv=>?_⟩;obtain⟨w,w1,w2⟩:=r2 v hv;obtain⟨L,l1,l2⟩:=ok.aM _ _ _ w1;rw[w2,r1]at l1;injection l1 with l1;subst l1;exact⟨w,w1,w2,λ_=>rfl,l2⟩
 obtain⟨G',u,g,-,n1,n2,n3,n4,n5,-,nt⟩:=ok.bz w he hc hs r0 r3;refine⟨G',u,g,λB sB=>⟨λt y hy=>?_,by rw[nt];have:=sB.2;omega⟩,λr' e1 e2 e3 e4 e5 e7=>h.aX g n1 u n2 n3 n4 n5 he e1 e2 e3 e4 e5 e7⟩;by_cases c:t=r.aA.aC;·rw[c,n1]at hy;injection hy with hy;subst hy;have:=sB.aC h.aD;simp only[WT,XI];omega
 ·rw[n2 t c]at hy;have:=sB.1 t y hy;omega
theorem gN.bF (ok:G.ok)(h:gN G D r)(h2:r.aE=2){e:gw}(he:e.aA=r.aA.aC)(hs:e.aF)(hc:e.aE->qY r.aN (iG e.aD).1/\r.aA.of.2<=r.aD):
  ∃G',G'.ok/\jJ r.id G G'/\(∀B,G.aJ B->G'.aJ (B+1))/\∀r':fy,r'.id=r.id->r'.aA=(r.bH e).aA->r'.aI=r.aI->r'.aD=r.aD->r'.aE=2->(∀f∈r'.aC,f∈r.aC\/(f.aD=r.aA.aA.aC+1/\f.aC=0))->gN G' D r':=by
 obtain⟨l0,hl⟩:=h.aK h2;obtain⟨o1,o2⟩:=h.aZ;have at0:=h.aA;obtain⟨G',u,g,n1,n2,n3,n4,n5,-,nt⟩:=ok.a_ hl he hs (λz=>by
  obtain⟨z1,z2⟩:=hc z;rw[h.aU]at z1;refine⟨z1,?_⟩;have hle:(gi (gj D r):Int)<=r.aD:=by have:=h.on.aA;rcases o2 with⟨o2,o3⟩ | o2<;>omega
  rcases h.aC with z | ⟨hl',c,c1,c2,c3,c4⟩;·exact .inl ω
  ·exact .inr ⟨c,c1,ω,c3,(mi c4 ω).symm⟩)
 refine⟨G',u,g,λB sB=>⟨λt y hy=>?_,by rw[nt];have:=sB.2;omega⟩,λr' e1 e2 e3 e4 e5 e7=>h.aX g n1 u n2 n3 n4 n5 he e1 e2 e3 e4 e5 e7⟩;by_cases c:t=r.aA.aC;·rw[c,n1]at hy;injection hy with hy;subst hy;have:=sB.aC h.aD;simp only[WT,XI];omega
 ·rw[n2 t c]at hy;have:=sB.1 t y hy;omega
theorem gN.aW (ok:G.ok)(h:gN G D r){n:Nat}{x:m_}(hx:G.aA r.aA.aC=some x)(hn:n<=x.l.length)(hp:x.l.take n<+:gj D r):
  ∃G',G'.ok/\jJ r.id G G'/\(G'.aA=G.aA/\G'.aH=G.aH)/\G'.aD=G.aD/\G'.aE r.aA.aC r.id n/\gN G' D r:=by
 obtain⟨u,g⟩:=ok.aU hx hn (λs w e=>(h.aJ s w e).1);refine⟨_,u,g,⟨rfl,rfl⟩,rfl,.inr ⟨rfl,rfl,WX _⟩,h.id,h.on,h.aD,h.aG,h.le,h.aL,h.aH,h.aA,h.aF,h.aC,h.aE,h.aJ,h.aQ,h.aN,h.aO,λt m z=>?_,h.aR,h.aS,h.aK,λf hf=>?_⟩
 ·rcases z with z | ⟨rfl,_,z⟩;·exact h.aI t m z
  ·refine⟨W9 _,λy hy=>.inl ?_⟩;have hy:G.aA r.aA.aC=some y:=hy;rw[hx]at hy;injection hy with hy;subst hy;exact (List.take_prefix_take_left z).trans hp
 ·obtain⟨a1,a2,a3⟩:=h.aM f hf;exact⟨a1,a2,a3.imp (λz=>z) .inl⟩
theorem gN.a_ (ok:G.ok)(h:gN G D r)(h2:r.aE=2){n:Int}(hc:r.aD<n)(hh:r.aA.aA.aF n=true)(ht:r.aA.aA.aJ n=r.aA.aC){Q:List Int}(hq:r.aN.aE Q=true)(ha:∀v∈Q,v=r.id\/∃f∈r.aC,f.aA=v/\n<=f.aC):
  ∃G',G'.ok/\jJ r.id G G'/\(∀B,G.aJ B->G'.aJ B)/\gN G' D {r with aD:=n}:=by
 obtain⟨l0,hl⟩:=h.aK h2;have E:=h.aP;have W:=h.aA;have hb0:=h.on.aA;have hn:n<=r.aA.aA.aC:=by unfold fG.aF at hh;simp at hh;exact hh.2
 obtain⟨G1,u,g1,⟨e1,et⟩,e2,k1,h1⟩:=h.aW ok (n:=(gj D r).length) hl (WX _) (by rw[XF];exact Yp _);rw[h1.aU]at hq;have U:G1.aA r.aA.aC=some ⟨r.id,l0,gj D r⟩:=by rw[e1];exact hl
 have h0:l0.length<n.toNat:=by apply W6;intro z;have I:=(ok.aA _ _ hl).2.1;have lt:=(ok.aA _ _ hl).2.2.2.2.2.lt;simp only at I lt;have hlen':((gU D r.aA.aA).length:Int)=r.aA.aA.aC:=E;rw[h.on.aD hh,tx ω ω]at ht;have e:=mO (js I (n:=n.toNat) ω) (i:=n.toNat-1) ω;rw[WU ω,WU ω]at e;injection e with e;have:=lt _ (Xq (show n.toNat-1<l0.length by omega));rw[<-e]at this;exact absurd ht (Int.ne_of_lt this)
 obtain⟨O,g2⟩:=u.aV U h.le h0 ω hq (λv hv=>by
  rcases ha v hv with rfl | ⟨f,f1,rfl,f2⟩;·exact u.aJ _ _ _ _ k1 ω
  ·obtain⟨-,a2,a3⟩:=h1.aM f f1;rcases a3 with a3 | a3;·omega
   ·exact u.aJ _ _ _ _ a3 ω)
 refine⟨_,O,g1.aM g2,λB sB=>⟨λt y hy=>sB.1 t y (by rw[<-e1];exact hy),by show G1.aH<=_;rw[et];exact sB.2⟩,h1.id,h1.on,h1.aD,h1.aG,h1.le,h1.aL,h1.aH,⟨W.1,by show r.aI<=n;omega,hn⟩,h1.aF,?_,h1.aE,h1.aJ,h1.aQ,h1.aN,h1.aO,h1.aI,h1.aR,h1.aS,h1.aK,h1.aM⟩;exact .inr ⟨by show n<=_;have:gj D {r with aD:=n}=gj D r:=rfl;rw[this];omega,_,XG,by show n<=(n.toNat:Int);omega,W9 _,rfl⟩
theorem gN.aV (h:gN G D r)(e1:r'.id=r.id)(e2:r'.aA.aC=r.aA.aC)(e3:r'.aA.aF=r.aA.aF)(a5:r'.aA.aA.on D)(O:G.aF (gj D r'))(E:Glb.nH (gj D r'))(a6:∀e∈gj D r',e.aA<=r.aA.aC)(W:r'.aA.aD=jh G.c0 (D.take r'.aA.aA.aA.toNat))(I:gT r'.aA.aG/\r'.aA.aG.length<=1)
  (a3:r'.aA.aA.aA<=r'.aI/\r'.aI<=r'.aD/\r'.aD<=r'.aA.aA.aC) (U:(gj D r').take r'.aI.toNat=D.take r'.aI.toNat/\r'.aI<=D.length) (Z:G.aI r.aA.aC r'.aD (gj D r'))
  (a4:∀t n,G.aE t r.id n->∀x,G.aA t=some x->t<=r.aA.aC->x.l.take n<+:gj D r->x.l.take n<+:gj D r'\/∃s y,t<s/\s<=r.aA.aC/\G.aA s=some y/\¬x.l.take n<+:y.l0)
  (u:(r'.aE=0/\r'.aC=[])\/(gj D r'=gj D r/\r'.aA.aA.aC=r.aA.aA.aC/\r'.aE=r.aE/\r'.aJ=r.aJ/\r'.aC=r.aC)):gN G D r':=by
 refine⟨⟨by rw[e1];exact h.id.1,by rw[e2];exact h.id.2⟩,a5,O,E,by rw[e2];exact a6,W,I,a3,U,by rw[e2];exact Z,by rw[e2];exact h.aE,λt w z=>by rw[e2,e3];rw[e1]at z;exact h.aJ t w z,λz=>by rw[e1,e2,e3];rw[e3]at z;exact h.aQ z,λt L z=>by rw[e2];rw[e1]at z;exact h.aN t L z,λt x z hx=>by rw[e2];rw[e1]at hx;exact h.aO t x z hx,λt n z=>?_,?_,λz=>?_,λz=>?_,λf hf=>?_⟩;·rw[e1]at z;obtain⟨a1,a2⟩:=h.aI t n z;rw[e2];exact⟨a1,λx hx=>(a2 x hx).elim (λp=>a4 t n z x hx a1 p) .inr⟩
 ·rcases u with⟨c,-⟩ | ⟨-,-,c,-⟩;·exact .inl c
  ·rw[c];exact h.aR
 ·rcases u with⟨c,-⟩ | ⟨c1,-,c2,c3,-⟩;·rw[c]at z;cases z
  ·rw[e1,e2,e3,c1,c3];exact h.aS (c2▸z)
 ·rcases u with⟨c,-⟩ | ⟨c1,-,c2,c3,-⟩;·rw[c]at z;cases z
  ·rw[e1,e2,c1];exact h.aK (c2▸z)
 ·rcases u with⟨-,c⟩ | ⟨c1,c4,c2,c3,c5⟩;·rw[c]at hf;cases hf
  ·rw[c4,e2];rw[c5]at hf;exact h.aM f hf
def g_ (D:Es)(r:fy):Es:=if (D.length:Int)<r.aD then (gj D r).take r.aD.toNat else D
def gJ.aL (G:gJ)(D:Es):Prop:=∃t,G.aI t D.length D
theorem gN.bB (ok:G.ok)(hD:G.aL D)(h:gN G D r):D<+:g_ D r/\G.aL (g_ D r)/\gN G (Glb.g_ D r) r/\gN G (Glb.g_ D r) {r with aI:=r.aD}/\(Glb.g_ D r).take r.aD.toNat=(gj D r).take r.aD.toNat/\r.aD<=(Glb.g_ D r).length:=by
 obtain⟨t,ht⟩:=hD;have hlen:=h.aP;have at0:=h.aA;have hb0:=h.on.aA;have pd:D<+:Glb.g_ D r:=by
  unfold Glb.g_;by_cases c:(D.length:Int)<r.aD;·rw[WW c];have:=ok.aQ ht h.aC ω;rw[Yj,XF]at this;refine ET ?_;rw[XM,XW ω];exact this.symm
  ·rw[WY c];exact Yp _
 have tk:(Glb.g_ D r).take r.aD.toNat=(gj D r).take r.aD.toNat/\r.aD<=(Glb.g_ D r).length:=by
  unfold Glb.g_;by_cases c:(D.length:Int)<r.aD;·rw[WW c,XM,Zl];exact⟨rfl,by simp only[W7];omega⟩
  ·rw[WY c];exact⟨(ok.aQ h.aC ht ω).symm,ω⟩
 have hG:=h.bE pd;have ef:gj (Glb.g_ D r) r=gj D r:=(h.on.up pd).2;refine⟨pd,?_,hG,?_,tk⟩
 ·unfold Glb.g_;by_cases c:(D.length:Int)<r.aD
  ·rw[WW c];refine⟨_,(h.aC.aA (W9 _) ?_).of ?_⟩;·simp only[W7];omega
   ·simp only[W7,Yj,XM];congr 1;omega
  ·rw[WY c];exact⟨t,ht⟩
 ·refine⟨hG.id,hG.on,hG.aD,hG.aG,hG.le,hG.aL,hG.aH,⟨by show r.aA.aA.aA<=r.aD;omega,W9 _,at0.2.2⟩,⟨?_,tk.2⟩,hG.aC,hG.aE,hG.aJ,hG.aQ,hG.aN,hG.aO,hG.aI,hG.aR,hG.aS,hG.aK,hG.aM⟩;show (gj (Glb.g_ D r) r).take r.aD.toNat=_;rw[ef,tk.1]
theorem gN.bH (h:gN G D r)(d:Int):gN G D (fy.aU r.id r.aA d):=by have at0:=h.aA;have hb0:=h.on.aA;have tk:(gj D r).take r.aA.aA.aA.toNat=D.take r.aA.aA.aA.toNat:=h.on.aF (WX _);refine⟨h.id,h.on,h.aD,h.aG,h.le,h.aL,h.aH,⟨W9 _,W9 _,by show r.aA.aA.aA<=r.aA.aA.aC;omega⟩,⟨tk,by show r.aA.aA.aA<=D.length;omega⟩,?_,h.aE,h.aJ,h.aQ,h.aN,h.aO,h.aI,.inl rfl,(λe=>by cases e),(λe=>by cases e),(λf hf=>by cases hf)⟩;exact (h.aC.aA (W9 _) (by show r.aA.aA.aA<=r.aD;omega))
end
theorem gJ.aF.aF {G:gJ}{L L':Es}(h:G.aF L)(h':G.aF L'){i:Nat}(hi:i<L.length)(u:i<L'.length) (e:L[i].aA=L'[i].aA):L.take (i+1)=L'.take (i+1):=by obtain⟨y,a1,a2,-⟩:=h i hi;obtain⟨z,b1,b2,-⟩:=h' i u;rw[e,b1]at a1;injection a1 with a1;rw[a2,b2,a1]
theorem gJ.aF.aD {G:gJ}{L L':Es}(h:G.aF L)(h':G.aF L'){n:Nat}(hn:n<=L.length)(u:n<=L'.length)(e:iU (L.take n)=iU (L'.take n)):L.take n=L'.take n:=by
 by_cases c:n=0
 ·rw[c];simp
 ·rw[tx ω hn,tx ω u]at e;have:=h.aF h' (i:=n-1) ω ω e;rw[show n-1+1=n by omega]at this;exact this
theorem Lx (l:fG):∀(e:Es)(i:Int)(h:l.aG i e<e.length),¬(l.aF (i+(l.aG i e:Nat))=true/\l.aJ (i+(l.aG i e:Nat))=e[l.aG i e].aA):=by
 intro e;induction e with
 | nil=>intro i h;simp at h
 | cons x r ih=>
  intro i h;by_cases c:(l.aF i && decide (l.aJ i=x.aA))=true
  ·have e1:l.aG i (x :: r)=l.aG (i+1) r+1:=by simp only[fG.aG];rw[WW c]
   simp only[e1]at h ⊢;have:=ih (i+1) (by simpa using h);simp only[List.getElem_cons_succ];rw[show i+((l.aG (i+1) r+1:Nat):Int)=i+1+(l.aG (i+1) r:Nat) by omega];exact this
  ·have e1:l.aG i (x :: r)=0:=by simp only[fG.aG];rw[WY c]
   simp only[e1]at h ⊢;simp only[YB,Zt,Int.add_zero];intro z;exact c (by simp[z.1,z.2])
theorem List.aA {l:Es}{n k:Nat}(h:n<=l.length):l.take n++(l.drop n).take k=l.take (n+k):=by rw[List.take_add]
section
variable {G:gJ} {D:Es} {r:fy}
theorem Lu (ok:G.ok)(h:gN G D r){x:m_}(hx:G.aA r.aA.aC=some x){p:Int}{es:Es}(hp:r.aA.aA.aF p=true)(ht:r.aA.aA.aJ p=iU (x.l.take p.toNat))(hle:p+es.length<=x.l.length)(W:es=(x.l.drop p.toNat).take es.length):
  (gj D r).take (p+r.aA.aA.aG (p+1) es).toNat=x.l.take (p+r.aA.aA.aG (p+1) es).toNat/\(p+r.aA.aA.aG (p+1) es).toNat<=(gj D r).length /\
   (r.aA.aA.aG (p+1) es<es.length->∀(h1:(p+r.aA.aA.aG (p+1) es).toNat<(gj D r).length) (h2:(p+r.aA.aA.aG (p+1) es).toNat<x.l.length),(gj D r)[(p+r.aA.aA.aG (p+1) es).toNat].aA≠x.l[(p+r.aA.aA.aG (p+1) es).toNat].aA):=by
 have hlen:=h.aP;have hb0:=h.on.aA;obtain⟨q1,q2⟩:=lF.1 hp;have fx:=(ok.aA _ _ hx).2.2.2.2.1;have Z:=yg r.aA.aA es (p+1);have U:=ye (e:=es) hp;rw[h.on.aD hp]at ht;have get:∀j,j<es.length->∃(h1:j<es.length)(h2:p.toNat+j<x.l.length),es[j]=x.l[p.toNat+j]:=λj hj=>by
  refine⟨hj,ω,?_⟩;have:es[j]?=((x.l.drop p.toNat).take es.length)[j]?:=by rw[<-W]
  rw[WU hj,XV hj,Xv,WU ω]at this;injection this
 have E:∀j:Nat,p.toNat+j<(gj D r).length->r.aA.aA.aF (p+1+j)=true/\∀(hh:p.toNat+j<(gj D r).length),r.aA.aA.aJ (p+1+j)=(gj D r)[p.toNat+j].aA:=λj hj=>by have e:r.aA.aA.aF (p+1+j)=true:=lF.2 ⟨ω,ω⟩;refine⟨e,λhh=>?_⟩;rw[h.on.aD e];have:=tx (l:=gU D r.aA.aA) (n:=(p+1+j).toNat) ω (by have:(gU D r.aA.aA).length=(gj D r).length:=rfl;omega);rw[this];congr 1;have:(p+1+j).toNat-1=p.toNat+j:=ω;simp only[this]
 refine⟨?_,ω,λhlt h1 h2 I=>?_⟩
 ·refine h.aD.aD fx ω ω ?_;by_cases c:r.aA.aA.aG (p+1) es=0;·rw[c];simpa using ht
  ·obtain⟨a,ha⟩:∃a,r.aA.aA.aG (p+1) es=a+1:=⟨_,(Nat.succ_pred c).symm⟩;rw[ha]at Z U ⊢;obtain⟨w1,w2⟩:=Gf r.aA.aA es (p+1) a ω ω;obtain⟨v1,v2,v3⟩:=get a ω;obtain⟨-,u⟩:=E a ω;have u:=u ω;rw[w2,v3]at u;rw[show (p+((a+1:Nat):Int)).toNat=p.toNat+a+1 by omega,tx ω ω,tx ω ω];simp only[Nat.add_sub_cancel];exact u.symm
 ·have e:(p+(r.aA.aA.aG (p+1) es:Int)).toNat=p.toNat+r.aA.aA.aG (p+1) es:=ω;simp only[e]at h1 h2 I;obtain⟨v1,v2,v3⟩:=get _ hlt;obtain⟨u1,u⟩:=E _ h1;have u:=u h1;have O:¬(r.aA.aA.aF (p+1+(r.aA.aA.aG (p+1) es:Nat))=true/\r.aA.aA.aJ (p+1+(r.aA.aA.aG (p+1) es:Nat))=es[r.aA.aA.aG (p+1) es].aA):=by intro z;exact Lx r.aA.aA es (p+1) hlt z
  refine O ⟨u1,?_⟩;rw[u,v3,I]
theorem gN.aY (ok:G.ok)(h:gN G D r){x:m_}(hx:G.aA r.aA.aC=some x) (h0:r.aE=0/\r.aC=[]) {p:Int} {es:Es} (hp:r.aA.aA.aF p=true) (ht:r.aA.aA.aJ p=iU (x.l.take p.toNat)) (O:p+es.length<=x.l.length) (E:es=(x.l.drop p.toNat).take es.length):
  (0<r.aA.aA.aI p es->r.aD<r.aA.aA.aI p es)/\gN G D {r with aA:={r.aA with aA:=r.aA.aA.aE p es}}/\(gU D (r.aA.aA.aE p es)).take (p+es.length).toNat=x.l.take (p+es.length).toNat/\p+es.length<=(r.aA.aA.aE p es).aC:=by
 obtain⟨a1,a2,a3⟩:=Lu ok h hx hp ht O E;have hlen:=h.aP;have I:=h.aA;have U:=h.on.aA;have hag:=yg r.aA.aA es (p+1);obtain⟨q1,q2⟩:=lF.1 hp;by_cases c:r.aA.aA.aG (p+1) es<es.length
 ·obtain⟨e1,e2⟩:=wJ hp c;have e3:=DQ hp c;obtain⟨n,hn⟩:∃n,n=(p+(r.aA.aA.aG (p+1) es:Int)).toNat:=⟨_,rfl⟩;rw[<-hn]at a1 a2 a3;have ef:gU D (r.aA.aA.aE p es)=x.l.take (p+es.length).toNat:=by
   have hf:gU D (r.aA.aA.aE p es)=(gj D r).take n++es.drop (r.aA.aA.aG (p+1) es):=by rw[e1];show _=(gU D r.aA.aA).take n++_;unfold gU;simp only;rw[List.take_append,Xu (l:=D.take _) (by rw[h.on.aC];omega),h.on.aC,Xl];congr 3;omega
   rw[hf,a1];have e4:es.drop (r.aA.aA.aG (p+1) es)=(x.l.drop n).take (es.length-r.aA.aA.aG (p+1) es):=by
    have W:∀a:Nat,es.drop a=((x.l.drop p.toNat).take es.length).drop a:=λa=>by rw[<-E]
    rw[W,List.drop_take,List.drop_drop];congr 2;omega
   rw[e4,List.aA (by omega:n<=x.l.length)];congr 1;omega
  have hc:r.aD<=n:=by apply W6;intro z;obtain⟨b1,b2⟩:=ok.aF h.aC hx;have e5:=mO b1 (i:=n) ω;rw[WU ω,WU ω]at e5;injection e5 with e5;exact a3 c ω ω (by rw[e5])
  have ll:(gj D {r with aA:={r.aA with aA:=r.aA.aA.aE p es}})=gU D (r.aA.aA.aE p es):=rfl;have tk:∀k:Nat,k<=n->(gU D (r.aA.aA.aE p es)).take k=(gj D r).take k:=λk hk=>by rw[ef,XM,XW ω];exact (mi a1 hk).symm
  refine⟨λ_=>by rw[e2];omega,h.aV (r':={r with aA:={r.aA with aA:=r.aA.aA.aE p es}}) rfl rfl rfl ⟨?_,?_⟩ ?_ ?_ ?_ ?_ h.aH ⟨?_,I.2.1,?_⟩ ⟨?_,h.aF.2⟩ ?_ (λt k hk y hy htl u=>?_) (.inl h0),?_,by rw[e3];omega⟩;·show 0<=(r.aA.aA.aE p es).aA/\(r.aA.aA.aE p es).aA<=D.length;rw[(pn _ _ _).1];exact U
  ·show (r.aA.aA.aE p es).aD=iU (D.take (r.aA.aA.aE p es).aA.toNat);rw[(pn _ _ _).1,(pn _ _ _).2];exact h.on.aE
  ·rw[ll,ef];exact (ok.aA _ _ hx).2.2.2.2.1.aC _
  ·rw[ll,ef];have rx:=ok.aP hx;exact rx.1.sublist (List.take_sublist _ _)
  ·rw[ll,ef];intro e he;exact (ok.aP hx).2 e (XQ he)
  ·show r.aA.aD=jh G.c0 (D.take (r.aA.aA.aE p es).aA.toNat);rw[(pn _ _ _).1];exact h.aL
  ·show (r.aA.aA.aE p es).aA<=r.aI;rw[(pn _ _ _).1];exact I.1
  ·show r.aD<=(r.aA.aA.aE p es).aC;rw[e3];omega
  ·rw[ll,tk _ (by show r.aI.toNat<=n;omega)];exact h.aF.1
  ·exact h.aC.of (tk _ (by show r.aD.toNat<=n;omega))
  ·by_cases c2:t=r.aA.aC
   ·rw[c2,hx]at hy;injection hy with hy;subst hy;refine .inl ?_;rw[ll,ef];refine YT (YZ _ _) (YZ _ _) ?_;simp only[W7];have:=u.length_le;simp only[W7]at this;apply W6;intro z;have e5:=mO (js u (n:=n+1) (by simp only[W7];omega)) (i:=n) ω;rw[XV ω,WU ω,WU ω]at e5;injection e5 with e5;exact a3 c ω ω (by rw[e5])
   ·by_cases c3:y.l.take k<+:x.l0
    ·refine .inl ?_;have px:=c3.trans (ok.aA _ _ hx).2.1;rw[ll,ef];refine YT px (YZ _ _) ?_;obtain⟨K,hK⟩:∃K,K=y.l.take k:=⟨_,rfl⟩;rw[<-hK]at px u ⊢;have l1:=px.length_le;have l2:=u.length_le;simp only[W7];apply W6;intro z;have e5:=mO ((js u (n:=n+1) ω).trans (js px (n:=n+1) ω).symm) (i:=n) ω;rw[WU ω,WU ω]at e5;injection e5 with e5;exact a3 c ω ω (by rw[e5])
    ·exact .inr ⟨r.aA.aC,x,ω,W9 _,hx,c3⟩
  ·rw[ef,XM,Zl]
 ·have c':r.aA.aA.aG (p+1) es=es.length:=ω;obtain⟨e1,e2⟩:=Qg c';rw[c']at a1 a2;refine⟨λz=>by rw[e2]at z;omega,by rw[e1];exact h,by rw[e1];exact a1,by rw[e1];omega⟩
theorem gN.bA (ok:G.ok)(h:gN G D r){b:Int}(hb:r.aA.aA.aF b=true)(hD:(gj D r).take b.toNat=D.take b.toNat)(e:b<=D.length):
  (r.aA.aA.aK b).on D/\gU D (r.aA.aA.aK b)=gj D r/\(r.aA.aA.aK b).aC=r.aA.aA.aC/\(r.aA.aA.aK b).aA=b:=by
 obtain⟨e1,e2⟩:=Dv hb;obtain⟨q1,q2⟩:=lF.1 hb;have hb0:=h.on.aA;have hlen:=h.aP;refine⟨⟨by rw[e1];exact⟨by show 0<=b;omega,e⟩,by rw[e1];show r.aA.aA.aJ b=iU (D.take b.toNat);rw[h.on.aD hb,<-hD]⟩,?_,e2,by rw[e1]⟩;rw[e1];unfold gU;simp only;rw[<-hD];show (gU D r.aA.aA).take b.toNat++_=gU D r.aA.aA;have:r.aA.aA.es.drop (b-r.aA.aA.aA).toNat=(gU D r.aA.aA).drop b.toNat:=by unfold gU;have e0:(D.take r.aA.aA.aA.toNat).drop b.toNat=[]:=Zf (by rw[h.on.aC];omega);rw[List.drop_append,e0,h.on.aC,Yg];congr 1;omega
 rw[this,YF]
theorem gN.bz (ok:G.ok)(h:gN G D r){x:m_}(hx:G.aA r.aA.aC=some x) (h0:r.aE=0/\r.aC=[]) {b:Int} (hb0:r.aD<b) (I:b<=D.length) (O:G.aI r.aA.aC b (D.take b.toNat)) {sn:List Int} (hs:gT sn/\sn.length<=1):
  gN G D {r with aA:={r.aA with aA:=r.aX b (iU (D.take b.toNat)),aD:=jh G.c0 (D.take b.toNat),aG:=sn},aD:=b,aI:=b}/\(gU D (r.aX b (iU (D.take b.toNat)))).take b.toNat=x.l.take b.toNat/\b.toNat<=x.l.length:=by
 have hlen:=h.aP;have at0:=h.aA;have hbb:=h.on.aA;obtain⟨b1,b2⟩:=ok.aF O hx;rw[XM,Zl]at b1;have fx:=(ok.aA _ _ hx).2.2.2.2.1;unfold fy.aX;by_cases c:r.aA.aA.aF b=true/\r.aA.aA.aJ b=iU (D.take b.toNat)
 ·rw[WW c];obtain⟨c1,c2⟩:=c;obtain⟨q1,q2⟩:=lF.1 c1;rw[h.on.aD c1,b1]at c2;have e:=h.aD.aD fx (n:=b.toNat) ω b2 c2;obtain⟨k1,k2,k3,k4⟩:=h.bA ok c1 (e.trans b1.symm) I;refine⟨h.aV (r':={r with aA:={r.aA with aA:=r.aA.aA.aK b,aD:=jh G.c0 (D.take b.toNat),aG:=sn},aD:=b,aI:=b}) rfl rfl rfl k1 (by show G.aF (gU D (r.aA.aA.aK b));rw[k2];exact h.aD) (by show Glb.nH (gU D (r.aA.aA.aK b));rw[k2];exact h.aG) (by show ∀e∈gU D (r.aA.aA.aK b),_;rw[k2];exact h.le) (by show jh G.c0 (D.take b.toNat)=jh G.c0 (D.take (r.aA.aA.aK b).aA.toNat);rw[k4]) hs ⟨by show (r.aA.aA.aK b).aA<=b;omega,W9 _,by show b<=(r.aA.aA.aK b).aC;omega⟩ ⟨?_,I⟩ ?_ (λt k hk y hy U u=>.inl (by show _<+:gU D (r.aA.aA.aK b);rw[k2];exact u)) (.inl h0),by rw[k2];exact e,b2⟩;·show (gU D (r.aA.aA.aK b)).take b.toNat=_;rw[k2];exact e.trans b1.symm
  ·show G.aI _ b (gU D (r.aA.aA.aK b));rw[k2];refine O.of ?_;rw[XM,Zl];exact e.trans b1.symm
 ·rw[WY c];have ef:gU D ⟨b,iU (D.take b.toNat),[]⟩=D.take b.toNat:=by unfold gU;simp
  refine⟨h.aV (r':={r with aA:={r.aA with aA:=⟨b,iU (D.take b.toNat),[]⟩,aD:=jh G.c0 (D.take b.toNat),aG:=sn},aD:=b,aI:=b}) rfl rfl rfl ⟨⟨by show 0<=b;omega,I⟩,rfl⟩ (by show G.aF (gU D _);rw[ef,b1];exact fx.aC _) (by show Glb.nH (gU D _);rw[ef,b1];exact (ok.aP hx).1.sublist (List.take_sublist _ _)) (by show ∀e∈gU D _,_;rw[ef,b1];intro e he;exact (ok.aP hx).2 e (XQ he)) rfl hs ⟨W9 _,W9 _,by show b<=b+_;simp⟩ ⟨?_,I⟩ ?_ (λt k hk y hy U u=>?_) (.inl h0),by rw[ef,XM,Zl];exact b1,b2⟩;·show (gU D _).take b.toNat=_;rw[ef,XM,Zl]
  ·show G.aI _ b (gU D _);rw[ef];exact O
  ·show _<+:gU D _\/_;rw[ef,b1];obtain⟨K,hK⟩:∃K,K=y.l.take k:=⟨_,rfl⟩;rw[<-hK]at u ⊢;have E:K<+:x.l->K<+:x.l.take b.toNat:=λpx=>by refine YT px (YZ _ _) ?_;simp only[W7];apply W6;intro z;have l2:=u.length_le;have e1:(gj D r).take b.toNat=x.l.take b.toNat:=(js u ω).trans (js px ω).symm;have hh:r.aA.aA.aF b=true:=lF.2 ⟨ω,ω⟩;exact c ⟨hh,by rw[h.on.aD hh,b1];exact Y5 iU e1⟩
   by_cases c2:t=r.aA.aC
   ·rw[c2,hx]at hy;injection hy with hy;exact .inl (E (by rw[hK,hy];exact YZ _ _))
   ·by_cases c3:K<+:x.l0
    ·exact .inl (E (c3.trans (ok.aA _ _ hx).2.1))
    ·exact .inr ⟨r.aA.aC,x,ω,W9 _,hx,c3⟩
end
theorem Ht {c:fI}(h:c.aF=true):jz.ok c:=by
 obtain⟨-,⟨h1,h2⟩,⟨h3,h4⟩,⟨h5,h6⟩,-⟩:=xb.1 h;have f:=nE h;have k:∀l:List Int,(∀m∈l,1<=m/\m<=7)->∀m∈l,iA m:=λl hl m hm=>by have:=hl m hm;constructor<;>omega
 have a:=k _ h2;have b:=k _ h4;have c':=k _ h6;obtain⟨f1,f2,f3⟩:=f;refine⟨⟨?_,a⟩,⟨?_,b⟩,⟨?_,c'⟩⟩<;>(simp only;omega)
theorem OR {c:fI}(h:c.aF=true):iG c.aG=(c,0):=by have e:=jz.aE c [] (Ht h);rw[wq,Yd]at e;unfold iG;rw[e];simp[fR.aD,h]
theorem GF {c:fI}(h:c.aF=true):gT c.aG:=by rw[<-wq];exact jz.aF c (Ht h)
theorem Vu {a b:List Int}(ha:gT a/\a.length<=2^20)(hb:gT b/\b.length<=2^20):jb (gW a.length++a++gW b.length++b)=(a,b,0):=by
 have e1:=oi.aE a (gW b.length++b) ⟨ω,ha.1⟩;have e2:=oi.aE b [] ⟨ω,hb.1⟩;have u:oi.aA (some (gW a.length++a++gW b.length++b))=(a,some (gW b.length++b)):=by rw[<-e1];congr 2;show _=(gW a.length++a)++_;simp only[Xl]
 have e:oi.aA (some (gW b.length++b))=(b,some []):=by rw[<-e2];congr 2;show _=(gW b.length++b)++_;simp
 unfold jb;simp only[u,e];rfl
theorem Hu {c:fI}(h:c.aF=true):c.aG.length<=256:=by obtain⟨f1,f2,f3⟩:=nE h;rw[AZ];omega
theorem DT {L:Es}{t:Int}(h:∀e∈L,e.aA<=t)(h0:0<=t)(n:Nat):iU (L.take n)<=t:=by
 by_cases c:(L.take n).length=0
 ·rw[W5 c];exact h0
 ·rw[rQ ω];exact h _ (XQ (Xq _))
theorem HI {G:gJ}(ok:G.ok){L:Es}(h:G.aF L){i:Nat}(hi:i<L.length):0<L[i].aA:=by obtain⟨y,h1,-⟩:=h i hi;exact (ok.aA _ y h1).1
theorem DU {G:gJ}(ok:G.ok){L:Es}(h:G.aF L)(n:Nat):0<=iU (L.take n):=by
 by_cases c:(L.take n).length=0
 ·rw[W5 c];exact W9 _
 ·rw[rQ ω];exact Int.le_of_lt (HI ok (h.aC n) ω)
structure hU (G:gJ)(D:Es)(x:RX):Prop where
 aA:gN G D x.r
 aC:∀m∈x.o.aA,lJ G D m
def iI (n:Nat)(G:gJ)(D:Es)(k:Int)(x:RX):Prop:=∃G',G'.ok/\jJ k G G'/\hU G' D x/\x.r.id=k/\∀B,G.aJ B->G'.aJ (B+n)
section
variable {G:gJ} {D:Es} {k:Int} {x:RX} {m:fF}
theorem iI.aA {n:Nat}(ok:G.ok)(h:hU G D x):iI n G D x.r.id x:=⟨G,ok,jJ.aJ _ _,h,rfl,λB sB=>sB.aA (Yy _ _)⟩
theorem iI.aF {n n':Nat}(h:iI n G D k x)(hn:n<=n'):iI n' G D k x:=let⟨G',a,b,c,d,e⟩:=h;⟨G',a,b,c,d,λB sB=>(e B sB).aA (Nat.add_le_add_left hn _)⟩
theorem iI.aD {n n':Nat}{y:RX}(h:iI n G D k x)(f:∀G',G'.ok->jJ k G G'->hU G' D x->x.r.id=k->iI n' G' D k y):iI (n+n') G D k y:=by obtain⟨G',E,g,r,e,s⟩:=h;obtain⟨G2,u,g2,r2,e2,s2⟩:=f G' E g r e;exact⟨G2,u,g.aM g2,r2,e2,λB sB=>by have:=s2 _ (s B sB);rwa [YW]at this⟩
theorem hU.aI {r':fy}{k:Int}{G':gJ}(h:hU G D x)(g:jJ k G G')(hm:gN G' D r'):hU G' D ⟨r',x.o⟩:=⟨hm,λm e=>(h.aC m e).aC g (Yp _)⟩
theorem hU.aD (h:hU G D x) (hm:lJ G D {m with aE:=x.r.id,aK:=x.r.aA.aE,aD:=x.r.aA.aC}):hU G D (x.aI m):=
 ⟨h.aA,λa ha=>by
  rcases Xe.1 ha with ha | ha;·exact h.aC a ha
  ·obtain rfl:a=_:=by simpa using ha
   exact hm⟩
theorem hU.aF (h:hU G D x){ok:Bool}{i:Int}(hb:0<=i/\(i=0\/∃t w,G.aA t=some w/\i<=w.l.length))(hi:ok=true->0<=i/\(i=0\/G.aE x.r.aA.aC x.r.id i.toNat)):hU G D (x.aQ m ok i):=
 h.aD ⟨⟨h.aA.id,⟨Xm _,λ_=>rfl⟩,⟨(λ_ h=>by cases h),Xm _⟩,⟨W9 _,h.aA.aE⟩,λ_=>hb⟩,(λe=>by cases e),(λe=>by cases e),(λe=>by cases e),λ_ o=>hi o,(λe=>by cases e)⟩
theorem hU.to (ok:G.ok)(h:hU G D x)(h2:x.r.aE=2){f:fS}(hf:1<=f.aD/\f.aD<=x.r.aA.aA.aC+1):hU G D (x.to f):=by
 obtain⟨l0,hl⟩:=h.aA.aK h2;have hlen:=h.aA.aP;have E:=h.aA.on.aA;have at0:=h.aA.aA;unfold RX.to;refine h.aD ?_;unfold fS.aH;by_cases c:f.aD<=x.r.aA.aA.aA
 ·rw[WW c];have cr:x.r.aA.aD.aF=true:=by rw[h.aA.aL];exact Hp ok.aK _
  have tb:=Vu (a:=x.r.aA.aD.aG) (b:=x.r.aA.aG) ⟨GF cr,by have:=Hu cr;omega⟩ ⟨h.aA.aH.1,by have:=h.aA.aH.2;omega⟩;have cl:=Hu cr;have sl:=h.aA.aH.2;have ag:=ok.aF (h.aA.aC.aA (W9 _) (show x.r.aA.aA.aA<=x.r.aD by omega)) hl;refine⟨⟨h.aA.id,⟨Xm _,λ_=>rfl⟩,⟨?_,?_⟩,⟨?_,?_⟩,λ_=>⟨E.1,.inr ⟨_,_,hl,?_⟩⟩⟩,(λe=>by cases e),(λe=>by cases e),(λe=>by cases e),(λe=>by cases e),λ_=>⟨_,hl,E.1,E.2,h.aA.on.aE,?_,?_,?_,?_⟩⟩;·show gT (gW x.r.aA.aD.aG.length++x.r.aA.aD.aG++gW x.r.aA.aG.length++x.r.aA.aG);exact (((wR _).aC (GF cr)).aC (wR _)).aC h.aA.aH.1
  ·show (gW x.r.aA.aD.aG.length++x.r.aA.aD.aG++gW x.r.aA.aG.length++x.r.aA.aG).length<=2^16;simp only[WT,jO];omega
  ·show 0<=x.r.aA.aA.aD;rw[h.aA.on.aE,<-h.aA.on.aF (WX _)];exact DU ok h.aA.aD _
  ·show x.r.aA.aA.aD<=x.r.aA.aC;rw[h.aA.on.aE,<-h.aA.on.aF (WX _)];exact DT h.aA.le h.aA.aE _
  ·show x.r.aA.aA.aA<=((gj D x.r).length:Int);omega
  ·refine (h.aA.aC.aA (W9 _) (show x.r.aA.aA.aA<=x.r.aD by omega)).of ?_;show (D.take x.r.aA.aA.aA.toNat).take x.r.aA.aA.aA.toNat=_;rw[XM,Zl];exact (h.aA.on.aF (WX _)).symm
  ·show (jb (gW x.r.aA.aD.aG.length++x.r.aA.aD.aG++gW x.r.aA.aG.length++x.r.aA.aG)).2.2=0;rw[tb]
  ·show iG (jb (gW x.r.aA.aD.aG.length++x.r.aA.aD.aG++gW x.r.aA.aG.length++x.r.aA.aG)).1=_;rw[tb,<-h.aA.aL];exact OR cr
  ·show gT (jb (gW x.r.aA.aD.aG.length++x.r.aA.aD.aG++gW x.r.aA.aG.length++x.r.aA.aG)).2.1/\_;rw[tb];exact h.aA.aH
 ·rw[WY c];have hh:x.r.aA.aA.aF (f.aD-1)=true:=lF.2 ⟨ω,ω⟩;have sl:=h.aA.on.aI (from_:=f.aD) (most:=8) ω ω;have e8:(8:Int).toNat=8:=rfl;rw[e8]at sl;have u:(x.r.aA.aA.aH f.aD 8).length=min 8 ((gj D x.r).length-(f.aD-1).toNat):=by rw[sl,W7,Xk]
  refine⟨⟨h.aA.id,⟨?_,λz=>absurd rfl z⟩,⟨(λ_ h=>by cases h),Xm _⟩,⟨?_,?_⟩,λ_=>⟨?_,.inr ⟨_,_,hl,?_⟩⟩⟩,(λe=>by cases e),(λe=>by cases e),λ_=>⟨_,hl,?_,?_,?_,?_,h.aA.aC⟩,(λe=>by cases e),(λe=>by cases e)⟩;·show (x.r.aA.aA.aH f.aD 8).length<=8;rw[u];omega
  ·show 0<=x.r.aA.aA.aJ (f.aD-1);rw[h.aA.on.aD hh];exact DU ok h.aA.aD _
  ·show x.r.aA.aA.aJ (f.aD-1)<=x.r.aA.aC;rw[h.aA.on.aD hh];exact DT h.aA.le h.aA.aE _
  ·show 0<=f.aD-1;omega
  ·show f.aD-1<=((gj D x.r).length:Int);omega
  ·show 0<=f.aD-1;omega
  ·show f.aD-1+((x.r.aA.aA.aH f.aD 8).length:Int)<=(gj D x.r).length;rw[u];omega
  ·exact h.aA.on.aD hh
  ·show x.r.aA.aA.aH f.aD 8=((gj D x.r).drop (f.aD-1).toNat).take (x.r.aA.aA.aH f.aD 8).length;rw[u];conv=>lhs;rw[sl]
   have:((gj D x.r).drop (f.aD-1).toNat).length=(gj D x.r).length-(f.aD-1).toNat:=Xk;rw[<-this,<-List.take_eq_take_min]
theorem hU.aM (ok:G.ok)(h:hU G D x)(h2:x.r.aE=2):∀{l:List fS},(∀f∈l,1<=f.aD/\f.aD<=x.r.aA.aA.aC+1)->hU G D (x.aN l)/\(x.aN l).r=x.r:=by
 intro l;induction l generalizing x with
 | nil=>intro _;exact⟨h,rfl⟩
 | cons f l ih=>intro hl;have h1:=h.to ok h2 (hl f ς);exact ih h1 h2 (λa ha=>hl a (by simp[ha]))
theorem hU.on (ok:G.ok)(h:hU G D x)(h2:x.r.aE=2):hU G D x.on/\x.on.r=x.r:=h.aM ok h2 (λf hf=>(h.aA.aM f hf).1)
theorem hU.aJ (ok:G.ok)(h:hU G D x)(h2:x.r.aE=2):iI 0 G D x.r.id x.aM:=by
 unfold RX.aM fy.aY;split
 ·rename_i c;have at0:=h.aA.aA;have hb0:=h.aA.on.aA;obtain⟨G',e,g,s,m'⟩:=h.aA.a_ ok h2 c.1 c.2.1 c.2.2 (Q:=lS x.r.bC ((x.r.id :: x.r.aC.map fS.aA).zip (x.r.aO :: x.r.aC.map fS.aC))) (LA (by show 0<x.r.bC;omega)) (λv hv=>by
   simp only[lS,XO,Zg,XK,List.zip_cons_cons,XC]at hv;obtain⟨p,⟨hp,hq⟩,rfl⟩:=hv;rcases hp with rfl | hp
   ·exact .inl rfl
   ·rw[List.zip_map',XO]at hp;obtain⟨f,hf,rfl⟩:=hp;exact .inr ⟨f,hf,rfl,hq⟩)
  exact⟨G',e,g,h.aI g m',rfl,s⟩
 ·exact iI.aA ok h
theorem IG (r:fy)(was:List fS)(last:Int):∀f∈(r.bD was last).aC,f∈was\/(f.aD=last+1/\f.aC=0):=by
 intro f hf;simp only[fy.bD,XO,Zg]at hf;obtain⟨n,-,rfl⟩:=hf;unfold mE;cases e:was.find? λf=>decide (f.aA=n) with
 | none=>exact .inr ⟨rfl,rfl⟩
 | some w=>exact .inl (List.mem_of_find?_eq_some e)
theorem Iq (x:RX)(kind:Int)(data:List Int):(x.aF kind data).r.id=x.r.id/\(x.aF kind data).r.aA=(x.r.bH ⟨x.r.aA.aC,kind,data⟩).aA/\(x.aF kind data).r.aI=x.r.aI/\(x.aF kind data).r.aD=x.r.aD/\(x.aF kind data).r.aE=x.r.aE/\(x.aF kind data).o.aA=x.o.aA/\∀f∈(x.aF kind data).r.aC,f∈x.r.aC\/(f.aD=x.r.aA.aA.aC+1/\f.aC=0):=by
 have e:x.r.aA.aA.aE x.r.aO [⟨x.r.aA.aC,kind,data⟩]=⟨x.r.aA.aA.aA,x.r.aA.aA.aD,x.r.aA.aA.es++[⟨x.r.aA.aC,kind,data⟩]⟩:=tw _ _;unfold RX.aF;simp only[e];by_cases c:kind=2;·rw[WW c];exact⟨rfl,rfl,rfl,rfl,rfl,rfl,IG _ _ _⟩
 ·rw[WY c];exact⟨rfl,rfl,rfl,rfl,rfl,rfl,λf hf=>.inl hf⟩
theorem hU.aO (ok:G.ok)(h:hU G D x)(h2:x.r.aE=2){kind:Int}{data:List Int}(hs:gw.aF ⟨x.r.aA.aC,kind,data⟩)(hc:kind=2->qY x.r.aN (iG data).1/\x.r.aA.of.2<=x.r.aD):iI 1 G D x.r.id (x.aF kind data)/\(x.aF kind data).r.aE=2:=by obtain⟨e1,e2,e3,e4,e5,e6,e7⟩:=Iq x kind data;obtain⟨G',u,g,s,f⟩:=h.aA.bF ok h2 (e:=⟨x.r.aA.aC,kind,data⟩) rfl hs (λz=>hc z.1);exact⟨⟨G',u,g,⟨f _ e1 e2 e3 e4 (e5.trans h2) e7,λm hm=>(h.aC m (by rw[e6]at hm;exact hm)).aC g (Yp _)⟩,e1,s⟩,e5.trans h2⟩
theorem hU.aG {n:Nat}(ok:G.ok)(h:iI n G D k x)(h2:x.r.aE=2):iI n G D k (x.on).aM/\(x.on).aM.r.aE=2:=by
 refine⟨h.aD (n':=0) λG' u g r e=>?_,?_⟩;·obtain⟨r1,e1⟩:=r.on u h2;have:=r1.aJ u (by rw[e1];exact h2);rw[e1,e]at this;exact this
 ·obtain⟨G',u,g,r,e,-⟩:=h;obtain⟨r1,e1⟩:=r.on u h2;show (x.on).r.aY.aE=2;unfold fy.aY;split;·show (x.on).r.aE=2;rw[e1];exact h2
  ·rw[e1];exact h2
theorem Q9 (t:Int):gw.aF ⟨t,0,[]⟩:=⟨(λ_ h=>by cases h),Xm _,by show (0:Int)<=0;omega,by show (0:Int)<=2;omega⟩
theorem hU.aH (ok:G.ok)(h:hU G D x)(h1:x.r.aE=1)(hw:x.r.aN.aE x.r.aJ=true):iI 1 G D x.r.id x.aL:=by
 obtain⟨y,hy⟩:∃y:RX,y={x with r:=({x.r with aE:=2,aR:=x.r.id,aM:=0,aJ:=[],aC:=[]}:fy).bD [] x.r.aO}:=⟨_,rfl⟩;have u:y.r.id=x.r.id:=by rw[hy];rfl
 have yh:y.r.aA=x.r.aA:=by rw[hy];rfl
 obtain⟨e1,e2,e3,e4,e5,e6,e7⟩:=Iq y 0 [];obtain⟨G',E,g,s,f⟩:=h.aA.bG ok h1 hw (e:=⟨x.r.aA.aC,0,[]⟩) rfl (Q9 _) (λz=>by cases z.1);have g1:iI 1 G D x.r.id (y.aF 0 []):=by
  refine⟨G',E,g,⟨f _ (e1.trans u) (by rw[e2];show (y.r.bH _).aA=_;unfold fy.bH;rw[yh]) (e3.trans (by rw[hy];rfl)) (e4.trans (by rw[hy];rfl)) (e5.trans (by rw[hy];rfl)) ?_,λm hm=>(h.aC m (by rw[e6,hy]at hm;exact hm)).aC g (Yp _)⟩,e1.trans u,s⟩;intro f hf;rcases e7 f hf with z | z
  ·rw[hy]at z;rcases IG _ _ _ f z with z | z;·cases z
   ·exact .inr z
  ·rw[yh]at z;exact .inr z
 have e:x.aL=((y.aF 0 []).on).aM:=by rw[hy];rfl
 rw[e];exact (hU.aG ok g1 (e5.trans (by rw[hy];rfl))).1
theorem UM {l:List fF}:∀{x:RX},hU G D x->(∀m∈l,lJ G D {m with aE:=x.r.id,aK:=x.r.aA.aE,aD:=x.r.aA.aC})->hU G D (x.aK l)/\(x.aK l).r=x.r:=by
 induction l with
 | nil=>intro x h _;exact⟨h,rfl⟩
 | cons m l ih=>intro x h hl;exact ih (h.aD (hl m ς)) (λa ha=>hl a (by simp[ha]))
theorem hU.aQ (ok:G.ok)(h:hU G D x)(u:Int):iI 2 G D x.r.id (x.aV u):=by
 obtain⟨z,hz⟩:∃z:RX,z=⟨{x.r with aA:={x.r.aA with aC:=x.r.aA.aC+1,aF:=x.r.id},aE:=1,aR:=0,aF:=0,aT:=k_ u,aC:=[],aJ:=[x.r.id]},(x.aX {gE.aI with aC:=1,aK:=x.r.aA.aC+1,aL:=x.r.id}).o⟩:=⟨_,rfl⟩;obtain⟨G',E,g,sl,st,c',m'⟩:=h.aA.bJ ok (by have:=h.aA.id;omega) (k_ u) 0;have rz:hU G' D z:=by rw[hz];exact⟨m',λm hm=>(h.aC m hm).aC g (Yp _)⟩
 have I:z.r.id=x.r.id:=by rw[hz]
 have e:x.aV u=if z.r.aN.aE z.r.aJ then z.aL else z.aK (jY z.r.id z.r.aA.aE z.r.aA.aC z.r.aA.aA z.r.aN):=by rw[hz];rfl
 rw[e];by_cases c:z.r.aN.aE z.r.aJ=true;·rw[WW c];obtain⟨G2,O,g2,r2,e2,s2⟩:=rz.aH E (by rw[hz]) c;rw[I]at g2 e2;exact⟨G2,O,g.aM g2,r2,e2,λB sB=>s2 (B+1) ⟨λt w hw=>Nat.le_succ_of_le (sB.1 t w (by rw[<-sl];exact hw)),by have:=sB.2;omega⟩⟩
 ·rw[WY c];have fz:gj D z.r=gj D x.r:=by rw[hz]
  obtain⟨r2,e2⟩:=UM (l:=jY z.r.id z.r.aA.aE z.r.aA.aC z.r.aA.aA z.r.aN) rz (λm hm=>by
   simp only[jY,XO]at hm;obtain⟨n,-,rfl⟩:=hm;refine⟨⟨rz.aA.id,⟨Xm _,λ_=>rfl⟩,⟨(λ_ h=>by cases h),Xm _⟩,⟨?_,?_⟩,(λe=>absurd e (by show ¬(3:Int)<=1;omega))⟩,λ_=>⟨gj D x.r,?_,?_,?_⟩,(λe=>by cases e),(λe=>by cases e),(λe=>by cases e),(λe=>by cases e)⟩;·show 0<=z.r.aA.aA.aL;rw[rz.aA.on.aG];have:=DU E rz.aA.aD (gj D z.r).length;rw[XF]at this;exact this
   ·show z.r.aA.aA.aL<=z.r.aA.aC;rw[rz.aA.on.aG];have:=DT rz.aA.le rz.aA.aE (gj D z.r).length;rw[XF]at this;exact this
   ·show G'.aG z.r.aA.aC z.r.id=_;rw[hz];exact c'
   ·show z.r.aA.aA.aC=_;rw[<-fz];exact rz.aA.aP.symm
   ·show z.r.aA.aA.aL=_;rw[<-fz];exact rz.aA.on.aG)
  exact⟨G',E,g,r2,by rw[e2];exact I,λB sB=>⟨λt w hw=>Xg (sB.1 t w (by rw[<-sl];exact hw)) (Yy _ _),by have:=sB.2;omega⟩⟩
end
end Glb
