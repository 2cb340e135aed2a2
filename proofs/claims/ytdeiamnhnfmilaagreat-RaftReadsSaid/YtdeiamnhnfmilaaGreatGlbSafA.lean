/-
  A library of its own.
-/
import Derived.Test.YtdeiamnhnfmilaaGreatGlbRafD
set_option linter.unusedSimpArgs false
set_option linter.unusedVariables false
set_option maxRecDepth 10000
namespace Glb
open Go
abbrev Es:=List fT
theorem iU {a b:Es}{n:Nat}(h:a<+:b)(hn:n<=a.length):b.take n=a.take n:=by obtain⟨c,rfl⟩:=h;rw[U0 hn]
theorem CO {a b:Es}(h:b.take a.length=a):a<+:b:=by have:=V7 a.length b;rwa [h]at this
theorem oX {a b:Es}{n:Nat}(h:a.take n=b.take n)(hn:n<=a.length):n<=b.length:=by have:=WQ List.length h;simp only[UD]at this;omega
theorem lp {a b:Es}{m n:Nat}(h:a.take n=b.take n)(hm:m<=n):a.take m=b.take m:=by
 have e:(a.take n).take m=(b.take n).take m:=by rw[h]
 simpa [Va,Vk hm] using e
theorem mw {a b:Es}{n i:Nat}(h:a.take n=b.take n)(hi:i<n):a[i]?=b[i]?:=by
 have e:(a.take n)[i]?=(b.take n)[i]?:=by rw[h]
 simpa [Vp,hi] using e
def iE:Es->Es->Nat
 | a :: r,b :: s=>if a=b then iE r s+1 else 0
 | _,_=>0
theorem xu:∀a b:Es,a.take (iE a b)=b.take (iE a b)
 | [],b=>by cases b<;>simp[iE]
 | a :: r,[]=>by simp[iE]
 | a :: r,b :: s=>by
  unfold iE;by_cases c:a=b;·rw[Uv c,Wv,Wv,xu r s,c]
  ·rw[Uw c];simp
theorem xr:∀a b:Es,iE a b<=a.length/\iE a b<=b.length
 | [],b=>by cases b<;>simp[iE]
 | a :: r,[]=>by simp[iE]
 | a :: r,b :: s=>by
  have:=xr r s;unfold iE;by_cases c:a=b;·rw[Uv c];simp only[UG];omega
  ·rw[Uw c];omega
theorem u0:∀{a b:Es}{n:Nat},a.take n=b.take n->n<=a.length->n<=iE a b
 | _,_,0,_,_=>UK _
 | [],_,n+1,_,h2=>by simp at h2
 | a :: r,[],n+1,h1,_=>by simp at h1
 | a :: r,b :: s,n+1,h1,h2=>by rw[Wv,Wv]at h1;injection h1 with e1 e2;unfold iE;rw[Uv e1];have:=u0 e2 (by simpa using h2);omega
theorem xM {P:Es->Prop} (h0:P []) (h1:∀l e,P l->P (l++[e])):∀l,P l:=by
 suffices h:∀(n:Nat)(l:Es),l.length=n->P l from λl=>h _ l rfl
 intro n;induction n with
 | zero=>intro l hl;rw[Uz hl];exact h0
 | succ n ih=>
  intro l hl;have u:l≠[]:=by rintro rfl;simp at hl
  rw[<-List.dropLast_concat_getLast u];exact h1 _ _ (ih _ (by simp[hl]))
def fT.aE (e:fT):Prop:=e.aD=2/\(ie e.aC).2=0
instance (e:fT):Decidable e.aE:=inferInstanceAs (Decidable (_/\_))
def fQ (l:Es):Nat:=match jQ l l.length with
 | none=>0
 | some (_,k)=>k+1
def iL (c0:fq)(l:Es):fq:=match jQ l l.length with
 | none=>c0
 | some (c,_)=>c
theorem Fc:∀{l m:Es}{k:Nat},l.take k=m.take k->jQ l k=jQ m k
 | _,_,0,_=>rfl
 | l,m,k+1,h=>by have e:=mw h (i:=k) (by omega);have ih:=Fc (lp h (V4 k));unfold jQ;rw[e,ih]
theorem BH (l:Es)(e:fT):jQ (l++[e]) (l++[e]).length=if e.aE then some ((ie e.aC).1,l.length) else jQ l l.length:=by
 rw[Ut,Vn];conv=>lhs;unfold jQ
 rw[U1 (Uy _)];simp only[WL,UY];have:jQ (l++[e]) l.length=jQ l l.length:=Fc (by simp);rw[this];rfl
theorem KZ:fQ []=0:=rfl
theorem wX (l:Es)(e:fT):fQ (l++[e])=if e.aE then l.length+1 else fQ l:=by
 unfold fQ;rw[BH];by_cases c:e.aE;·rw[Uv c,Uv c]
 ·rw[Uw c,Uw c]
theorem wY (c0:fq)(l:Es)(e:fT):iL c0 (l++[e])=if e.aE then (ie e.aC).1 else iL c0 l:=by
 unfold iL;rw[BH];by_cases c:e.aE;·rw[Uv c,Uv c]
 ·rw[Uw c,Uw c]
theorem mX (l:Es):fQ l<=l.length:=by
 unfold fQ;split;·omega
 ·rename_i c k h;have:=BG h;omega
theorem qq (l:Es):(∀k (h:k<l.length),fQ l<=k->¬l[k].aE)/\(0<fQ l->∃h:fQ l-1<l.length,l[fQ l-1].aE):=by
 induction l using xM with
 | h0=>exact⟨λk h=>by simp at h,λh=>by simp[KZ]at h⟩
 | h1 l e ih=>
  rw[wX];by_cases c:e.aE;·rw[Uv c];refine⟨λk h hk=>by simp at h;omega,λ_=>⟨by simp,?_⟩⟩;simp only[Nat.add_sub_cancel];rw[VU (Uy _)];simpa using c
  ·rw[Uw c];refine⟨λk h hk=>?_,λh0=>?_⟩
   ·by_cases ck:k<l.length
    ·rw[VM ck];exact ih.1 k ck hk
    ·have:k=l.length:=by simp at h;omega
     subst this;rw[VU (Uy _)];simpa using c
   ·obtain⟨h1,h2⟩:=ih.2 h0;refine⟨by simp;omega,?_⟩;rw[VM h1];exact h2
theorem BE {l:Es}{k:Nat}(h:k<l.length) (hc:l[k].aE):k+1<=fQ l:=by apply UC;intro z;exact (qq l).1 k h (by omega) hc
theorem uN (c0:fq){l:Es}{k:Nat}(hk:fQ l<=k):iL c0 (l.take k)=iL c0 l/\fQ (l.take k)=fQ l:=by
 induction l using xM with
 | h0=>simp
 | h1 l e ih=>
  by_cases c:l.length+1<=k
  ·rw[UU (by simpa using c)];exact⟨rfl,rfl⟩
  ·have hl:k<=l.length:=by omega
   rw[U0 hl];rw[wX]at hk;by_cases ce:e.aE;·rw[Uv ce]at hk;omega
   ·rw[Uw ce]at hk;rw[wY,wX,Uw ce,Uw ce];exact ih hk
theorem BF (l:Es)(k:Nat):fQ (l.take k)<=fQ l:=by
 by_cases c:fQ (l.take k)=0
 ·omega
 ·obtain⟨h1,h2⟩:=(qq (l.take k)).2 (by omega);rw[VK]at h2;have h3:fQ (l.take k)-1<l.length:=by simp at h1;omega
  have:=BE h3 h2;omega
theorem LM {k a b:List Int}(hk:k.Nodup)(ha:mj k a=true)(hb:mj k b=true):∃n,n∈a/\n∈b:=by
 apply UC;intro h;have h':∀n,n∈a->n∉b:=λn h1 h2=>h ⟨n,h1,h2⟩;unfold mj at ha hb;simp only[Vb]at ha hb;have e:∀l:List Int,l.countP (λn=>decide (n∈a))+l.countP (λn=>decide (n∈b))<=l.length:=by
  intro l;induction l with
  | nil=>simp
  | cons x l ih=>
   simp only[List.countP_cons,UG];by_cases c1:x∈a;·have c2:=h' x c1;simp only[c1,c2,decide_true,V9,Vm,UQ,Vd];omega
   ·simp only[c1,V9,UQ,Vd];split<;>omega
 have:=e k;omega
def fq.aN (c:fq):List Int:=if c.aC=[] then c.aA else c.aC
theorem Uh {c:fq}{a:List Int}(h:c.aF a=true):mj c.aN a=true:=by
 unfold fq.aF at h;simp only[US,VF,Vb]at h;unfold fq.aN;by_cases hn:c.aC=[];·rw[Uv hn];exact h.1
 ·rw[Uw hn];rcases h.2 with h | h;·exact absurd (Uz h) hn
  ·exact h
def pY (c c':fq):Prop:=(∃n,c.aS n=(c',0))\/(∃n,c.aT n=(c',0))\/∃far,c.aU far=(c',true)
theorem Gd {c:fq}{n:Int}(h:c.aP n=0):c.aR=false:=by
 unfold fq.aP at h;by_cases c1:c.aE=false;·rw[Uv c1]at h;cases h
 ·rw[Uw c1]at h;by_cases c2:n<1\/7<n;·rw[Uv c2]at h;cases h
  ·rw[Uw c2]at h;by_cases c3:c.aR=true;·rw[Uv c3]at h;cases h
   ·simpa using c3
theorem Em {c:fq}(h:c.aR=false):c.aC=[]/\c.aD=[]:=by unfold fq.aR at h;simp only[VD]at h;exact⟨Uz (by omega),Uz (by omega)⟩
theorem Uj {c c':fq}{b:List Int}(h:pY c c')(hb:c'.aF b=true):mj c.aN b=true:=by
 have o:∀x:fq,x.aF b=true->mj x.aA b=true:=λx hx=>by unfold fq.aF at hx;simp only[US]at hx;exact hx.1
 rcases h with⟨n,h⟩ | ⟨n,h⟩ | ⟨u,h⟩
 ·unfold fq.aS at h;by_cases c1:c.aP n≠0;·rw[Uv c1]at h;injection h with _ e;exact absurd e c1
  ·rw[Uw c1]at h;by_cases c2:n∈c.aA;·rw[Uv c2]at h;injection h with _ e;cases e
   ·rw[Uw c2]at h;injection h with e _;subst e;have:=Em (Gd (by simpa using c1));unfold fq.aN;rw[Uv this.1];exact (have z:=o _ hb;z)
 ·unfold fq.aT at h;by_cases c1:c.aP n≠0;·rw[Uv c1]at h;injection h with _ e;exact absurd e c1
  ·rw[Uw c1]at h;by_cases c2:n∉c.aA;·rw[Uv c2]at h;injection h with _ e;cases e
   ·rw[Uw c2]at h;by_cases c3:c.aA.length=1;·rw[Uv c3]at h;injection h with _ e;cases e
    ·rw[Uw c3]at h;injection h with e _;subst e;have:=Em (Gd (by simpa using c1));unfold fq.aN;rw[Uv this.1];exact (have z:=o _ hb;z)
 ·unfold fq.aU at h;by_cases c1:c.aV u=true;·rw[Uv c1]at h;injection h with _ e;cases e
  ·rw[Uw c1]at h;by_cases c2:0<c.aC.length;·rw[Uv c2]at h;injection h with e _;subst e;unfold fq.aN;rw[Uw (λz=>by rw[z]at c2;simp at c2)];exact (have z:=o _ hb;z)
   ·rw[Uw c2]at h;injection h with e _;subst e;unfold fq.aN;rw[Uv (Uz (by omega))];exact (have z:=o _ hb;z)
structure mA where
 id:Int
 l0:Es
 l:Es
structure yw where
 aC:Int
 aA:Es
 aD:Bool
structure vP where
 t:Int
 n:Nat
 l:Es
structure gq where
 c0:fq
 aA:Int->Option mA
 aC:Int->Int->Option yw
 aG:Int->Int->Option Es
 aE:Int->Int->Nat->Prop
 aD:List vP
 aH:Int
def iD (l:Es):Int:=match l.getLast? with
 | some e=>e.aA
 | none=>0
def rL (a b:Es):Prop:=iD b<iD a\/(iD a=iD b/\b.length<=a.length)
def gq.aF (G:gq)(L:Es):Prop:=∀i (h:i<L.length),∃r,G.aA L[i].aA=some r/\L.take (i+1)=r.l.take (i+1)/\r.l0.length<=i
def mJ (L:Es):Prop:=L.Pairwise λa b=>a.aA<=b.aA
structure gq.aK (G:gq)(b:Bool)(t id:Int)(L:Es):Prop where
 aA:G.aF L
 aD:mJ L
 lt:∀e∈L,e.aA<t
 aC:∃Q,(iL G.c0 L).aF Q=true/\∀v∈Q,∃w,G.aC t v=some w/\w.aC=id/\(w.aD=true->b=true)/\rL L w.aA
def fT.aF (e:fT):Prop:=gI e.aC/\e.aC.length<=256/\0<=e.aD/\e.aD<=2
structure gq.ok (G:gq):Prop where
 aK:G.c0.aE=true
 aG:∀t r,G.aA t=some r->∀e∈r.l,e.aF
 aA:∀t r,G.aA t=some r->0<t/\r.l0<+:r.l/\r.l0.length<r.l.length/\(∀i (h:i<r.l.length),r.l0.length<=i->r.l[i].aA=t)/\G.aF r.l/\G.aK false t r.id r.l0
 aH:∀t v w,G.aC t v=some w->G.aF w.aA/\mJ w.aA
 aE:∀t v n,G.aE t v n->∃r,G.aA t=some r/\n<=r.l.length
 aI:∀t v n m,G.aE t v n->m<=n->G.aE t v m
 aL:∀t v n t' w r,G.aE t v n->G.aC t' v=some w->t<t'->G.aA t=some r->r.l.take n<+:w.aA\/∃s r',t<s/\(s<t'\/(w.aD=true/\s=t'))/\G.aA s=some r'/\¬r.l.take n<+:r'.l0
 aM:∀t v w,G.aC t v=some w->∃L,G.aG t w.aC=some L/\rL L w.aA
 aN:∀t v w,G.aC t v=some w->w.aD=true->∃r,G.aA t=some r
 aF:∀t v L,G.aG t v=some L->G.aF L/\Glb.mJ L/\∀e∈L,e.aA<t
 aC:∀c∈G.aD,∃r,G.aA c.t=some r/\c.l<+:r.l/\r.l0.length<c.n/\c.n<=c.l.length/\∃Q,(iL G.c0 c.l).aF Q=true/\∀v∈Q,G.aE c.t v c.n
 aO:∀a c b,G.aD=a++c :: b->∀p (h:p<c.l.length),c.l[p].aE->p+1<fQ c.l->∃c'∈b,p+1<=c'.n/\c'.t<=c.t/\c'.l.take (p+1)=c.l.take (p+1)
 aD:∀t r,G.aA t=some r->∀j (h:j<r.l.length),r.l[j].aE->r.l0.length<=j->pY (iL G.c0 (r.l.take j)) (iL G.c0 (r.l.take (j+1)))/\(fQ (r.l.take j)=0\/∃c'∈G.aD,fQ (r.l.take j)<=c'.n/\c'.t<=t/\c'.l.take (fQ (r.l.take j))=r.l.take (fQ (r.l.take j)))
theorem Hn {L:Es}(h:mJ L){i j:Nat}(hij:i<=j)(hj:j<L.length):(L[i]'(by omega)).aA<=L[j].aA:=by
 by_cases c:i=j
 ·subst c;exact UL _
 ·exact Wl.1 h i j (by omega) hj (by omega)
theorem rH {L:Es}(h:0<L.length):iD L=(L[L.length-1]'(by omega)).aA:=by unfold iD;rw[List.getLast?_eq_getElem?,Ur (by omega)]
theorem Q1 {L:Es}(h:mJ L){i:Nat}(hi:i<L.length):L[i].aA<=iD L:=by rw[rH (by omega)];exact Hn h (by omega) (by omega)
theorem gq.aF.aC {G:gq}{L:Es}(h:G.aF L)(n:Nat):G.aF (L.take n):=by intro i hi;simp only[UD]at hi;obtain⟨r,h1,h2,h3⟩:=h i (by omega);refine⟨r,by rw[VK];exact h1,?_,h3⟩;rw[Va,Vk (by omega)];exact h2
theorem E_ {c0:fq}(h:c0.aE=true)(L:Es):(iL c0 L).aE=true:=by
 induction L using xM with
 | h0=>exact h
 | h1 l e ih=>
  rw[wY];by_cases c:e.aE;·rw[Uv c];exact uS c.2
  ·rw[Uw c];exact ih
theorem NH {c:fq}(h:c.aE=true):c.aN.Nodup:=by
 obtain⟨-,⟨h1,-⟩,⟨h2,-⟩,-⟩:=vz.1 h;unfold fq.aN;split;·exact h1.aA
 ·exact h2.aA
section
variable {G:gq}
theorem gq.ok.bx (ok:G.ok){L:Es}(hL:G.aF L){j:Nat}(hj:j<L.length) (hc:L[j].aE):pY (iL G.c0 (L.take j)) (iL G.c0 (L.take (j+1))):=by
 obtain⟨r,h1,h2,h3⟩:=hL j hj
 have hr:=oX h2 (by omega)
 have e:=mw h2 (i:=j) (by omega)
 rw[Ur hj,Ur (by omega)]at e
 injection e with e
 have:=(ok.aD _ r h1 j (by omega) (e▸hc) h3).1
 rw[lp h2 (V4 j),h2]
 exact this
theorem gq.ok.aT (ok:G.ok){L L':Es}(hL:G.aF L)(u:G.aF L') (h1:fQ L=fQ (L.take (iE L L'))\/fQ (L.take (fQ L-1))=fQ (L.take (iE L L')))
  (h2:fQ L'=fQ (L.take (iE L L'))\/fQ (L'.take (fQ L'-1))=fQ (L.take (iE L L'))) {a b:List Int} (ha:(iL G.c0 L).aF a=true) (hb:(iL G.c0 L').aF b=true):∃n,n∈a/\n∈b:=by
 have e:=xu L L';obtain⟨l1,l2⟩:=xr L L';have one:∀(M:Es),G.aF M->M.take (iE L L')=L.take (iE L L')->iE L L'<=M.length->(fQ M=fQ (L.take (iE L L'))\/fQ (M.take (fQ M-1))=fQ (L.take (iE L L')))->∀x,(iL G.c0 M).aF x=true->mj (iL G.c0 (L.take (iE L L'))).aN x=true:=by
  intro M hM eM lM hc x hx;have hp:=mX (L.take (iE L L'));simp only[UD]at hp;by_cases c:fQ M=fQ (L.take (iE L L'));·have:=(uN G.c0 (l:=M) (k:=iE L L') (by omega)).1;rw[eM]at this;rw[this];exact Uh hx
  ·have hc:=hc.resolve_left c;have hm:=BF M (iE L L');rw[eM]at hm;have hl:=mX M;obtain⟨g1,g2⟩:=(qq M).2 (by omega);have nx:=ok.bx hM g1 g2;rw[show fQ M-1+1=fQ M by omega,(uN G.c0 (Uy (fQ M))).1]at nx;have e1:=(uN G.c0 (l:=M.take (fQ M-1)) (k:=fQ (L.take (iE L L'))) (by omega)).1;have e2:=(uN G.c0 (l:=L.take (iE L L')) (k:=fQ (L.take (iE L L'))) (Uy _)).1;rw[Va,Vk (by omega)]at e1 e2;have e3:M.take (fQ (L.take (iE L L')))=L.take (fQ (L.take (iE L L'))):=lp eM (by omega);rw[e3,e2]at e1;rw[e1];exact Uj nx hx
 exact LM (NH (E_ ok.aK _)) (one L hL rfl l1 h1 a ha) (one L' u e.symm l2 h2 b hb)
theorem BD (ok:G.ok){L:Es}{k:Nat}(hk:k<=L.length)(h1:fQ L≠fQ (L.take k)) (h2:fQ (L.take (fQ L-1))≠fQ (L.take k)):k<fQ (L.take (fQ L-1))/\fQ (L.take (fQ L-1))<fQ L:=by
 have a1:=BF L k;have a2:=mX L;have a3:=mX (L.take (fQ L-1));simp only[UD]at a3;have a4:=mX (L.take k);simp only[UD]at a4;refine⟨?_,by omega⟩;apply UC;intro z;have hmono:fQ (L.take k)<=fQ (L.take (fQ L-1)):=by
  by_cases c:k<=fQ L-1
  ·have:=BF (L.take (fQ L-1)) k;rw[Va,Vk c]at this;exact this
  ·exfalso;have e:=(uN (⟨[],[],[]⟩:fq) (l:=L) (k:=k) (by omega)).2;exact h1 e.symm
 have hlt:0<fQ (L.take (fQ L-1)):=by omega
 obtain⟨g1,g2⟩:=(qq (L.take (fQ L-1))).2 hlt;rw[VK]at g2;have g3:fQ (L.take (fQ L-1))-1<(L.take k).length:=by simp only[UD];omega
 have g4:=BE g3 (by rw[VK];exact g2);omega
theorem gq.ok.aS (ok:G.ok)(bb:Bool)(t':Int) (I:∀s r,G.aA s=some r->(s<t'\/(bb=true/\s=t'))->∀c∈G.aD,c.t<s->c.l.take c.n<+:r.l0) (id:Int) (L':Es) (w:G.aK bb t' id L'):∀c∈G.aD,c.t<t'->c.l.take c.n<+:L':=by
 suffices hh:∀b a,G.aD=a++b->∀c∈b,c.t<t'->c.l.take c.n<+:L' from hh G.aD [] rfl
 intro b
 induction b with
 | nil=>intro a _ c hc;cases hc
 | cons c b ihb=>
  intro a ea c' a3 hlt
  have E:=ihb (a++[c]) (by rw[ea];simp)
  by_cases W:c'∈b
  ·exact E c' W hlt
  obtain rfl:c'=c:=(Vg.1 a3).resolve_right W
  have M:c'∈G.aD:=by rw[ea];simp
  obtain⟨r,l1,l2,l3,l4,Q,q1,q2⟩:=ok.aC c' M
  obtain⟨r1,r2,r3,r4,r5,r6⟩:=ok.aA _ r l1
  have fL:G.aF c'.l:=by
   have:c'.l=r.l.take c'.l.length:=by obtain⟨z,hz⟩:=l2;rw[<-hz];simp
   rw[this];exact r5.aC _
  have Z:r.l0<+:c'.l:=V0 r2 l2 (by omega)
  apply UC
  intro no
  have lc:=xu c'.l L'
  obtain⟨k1,k2⟩:=xr c'.l L'
  have A:fQ c'.l=fQ (c'.l.take (iE c'.l L'))\/fQ (c'.l.take (fQ c'.l-1))=fQ (c'.l.take (iE c'.l L')):=by
   apply UC
   intro z
   rw[not_or]at z
   obtain⟨z1,z2⟩:=BD ok k1 z.1 z.2
   obtain⟨g1,g2⟩:=(qq (c'.l.take (fQ c'.l-1))).2 (by omega)
   rw[VK]at g2
   simp only[UD]at g1
   obtain⟨d,d1,d2,d3,d4⟩:=ok.aO a c' b ea _ (by omega) g2 (by omega)
   rw[show fQ (c'.l.take (fQ c'.l-1))-1+1=fQ (c'.l.take (fQ c'.l-1)) by omega]at d2 d4
   have pd:=E d d1 (by omega)
   obtain⟨rd,m1,m2,m3,m4,-⟩:=ok.aC d (by rw[ea];simp[d1])
   have e1:=iU pd (n:=fQ (c'.l.take (fQ c'.l-1))) (by simp only[UD];omega)
   rw[Va,Vk d2,d4]at e1
   have:=u0 e1.symm (by have:=mX c'.l;omega)
   omega
  have B:fQ L'=fQ (c'.l.take (iE c'.l L'))\/fQ (L'.take (fQ L'-1))=fQ (c'.l.take (iE c'.l L')):=by
   apply UC
   intro z
   rw[lc,not_or]at z
   obtain⟨z1,z2⟩:=BD ok k2 z.1 z.2
   have hl:=mX L'
   obtain⟨g1,g2⟩:=(qq L').2 (by omega)
   obtain⟨rs,s1,s2,s3⟩:=w.aA _ g1
   have O:=w.lt _ (UT g1)
   have hr:=oX s2 (by omega)
   have e:=mw s2 (i:=fQ L'-1) (by omega)
   rw[Ur g1,Ur (by omega)]at e
   injection e with e
   have cf:=(ok.aD _ rs s1 (fQ L'-1) (by omega) (e▸g2) s3).2
   rw[<-lp s2 (V4 _)]at cf
   obtain⟨d,d1,d2,d3,d4⟩:=cf.resolve_left (by omega)
   have d5:d.l.take (fQ (L'.take (fQ L'-1)))=L'.take (fQ (L'.take (fQ L'-1))):=d4.trans (lp s2 (by omega)).symm
   obtain⟨rd,m1,m2,m3,m4,-⟩:=ok.aC d d1
   have a2:fQ (L'.take (fQ L'-1))<=L'.length:=by omega
   have u:c'.l.take (fQ (L'.take (fQ L'-1)))=L'.take (fQ (L'.take (fQ L'-1)))->False:=λe1=>by
    have U:fQ (L'.take (fQ L'-1))<=c'.l.length:=oX e1.symm a2
    have:=u0 e1 U
    omega
   by_cases o1:d.t<c'.t
   ·have pd:=(I _ r l1 (.inl hlt) d d1 o1).trans Z
    have e1:=iU pd (n:=fQ (L'.take (fQ L'-1))) (by simp only[UD];omega)
    rw[Va,Vk d2,d5]at e1
    exact u e1
   ·by_cases o2:d.t=c'.t
    ·rw[o2,l1]at m1
     injection m1 with m1
     subst m1
     by_cases o3:fQ (L'.take (fQ L'-1))<=c'.l.length
     ·have e1:=iU l2 o3
      have e2:=iU m2 (n:=fQ (L'.take (fQ L'-1))) (by omega)
      exact u (by rw[<-e1,e2,d5])
     ·refine no ?_
      have e2:=iU m2 (n:=fQ (L'.take (fQ L'-1))) (by omega)
      have e3:=iU l2 (n:=c'.n) l4
      refine CO ?_
      rw[UD,Vk l4,<-e3]
      exact (lp (e2.trans d5) (by omega)).symm
    ·have pd:=I _ rd m1 (.inl (by omega)) c' M (by omega)
     have hn:(c'.l.take c'.n).length=c'.n:=by simp only[UD];omega
     have U:=pd.length_le
     rw[hn]at U
     have e1:=iU ((pd.trans (ok.aA _ rd m1).2.1)) (n:=c'.n) (by omega)
     rw[Va,Wr]at e1
     have e2:=iU m2 (n:=c'.n) (by omega)
     by_cases o3:fQ (L'.take (fQ L'-1))<=c'.n
     ·exact u ((lp (e1.symm.trans e2) o3).trans d5)
     ·refine no ?_
      refine CO ?_
      rw[hn,<-lp d5 (show c'.n<=_ by omega),<-e2,e1]
  obtain⟨Q',q3,q4⟩:=w.aC
  obtain⟨v,v1,v2⟩:=ok.aT fL w.aA A B q1 q3
  have ak:=q2 v v1
  obtain⟨g,g1,g2,g3,g4⟩:=q4 v v2
  obtain⟨f1,f2⟩:=ok.aH _ _ _ g1
  have e3:=iU l2 (n:=c'.n) l4
  have has:c'.l.take c'.n<+:g.aA:=by
   rw[<-e3]
   rcases ok.aL _ _ _ _ _ _ ak g1 hlt l1 with h | ⟨s,r',h1,h2,h3,h4⟩
   ·exact h
   ·exfalso
    rw[e3]at h4
    exact h4 (I s r' h3 (h2.imp (λz=>z) (λz=>⟨g3 z.1,z.2⟩)) c' M h1)
  have hn:(c'.l.take c'.n).length=c'.n:=by simp only[UD];omega
  have gl:=has.length_le
  rw[hn]at gl
  have tt:c'.t<=iD g.aA:=by
   have e1:=iU has (n:=c'.n) (by omega)
   rw[Va,Wr,<-e3]at e1
   have e2:=mw e1 (i:=c'.n-1) (by omega)
   rw[Ur (by omega),Ur (by have:=l2.length_le;omega)]at e2
   injection e2 with e2
   have e4:=r4 (c'.n-1) (by have:=l2.length_le;omega) (by omega)
   have:=Q1 f2 (i:=c'.n-1) (by omega)
   rw[e2,e4]at this
   exact this
  have a1:0<L'.length:=by
   apply UC
   intro z
   have:L'=[]:=Uz (by omega)
   subst this
   unfold rL at g4
   have:iD ([]:Es)=0:=rfl
   rw[this]at g4
   have:=r1
   omega
  obtain⟨rs,s1,s2,s3⟩:=w.aA (L'.length-1) (by omega)
  have O:=w.lt _ (UT (show L'.length-1<L'.length by omega))
  rw[<-rH a1]at s1 O
  rw[show L'.length-1+1=L'.length by omega,U7]at s2
  by_cases o:iD L'=iD g.aA
  ·have gl':g.aA.length<=L'.length:=by
    unfold rL at g4
    omega
   obtain⟨rg,t1,t2,t3⟩:=f1 (g.aA.length-1) (by omega)
   rw[<-rH (by omega),<-o,s1]at t1
   injection t1 with t1
   subst t1
   rw[show g.aA.length-1+1=g.aA.length by omega,U7]at t2
   refine no (has.trans ?_)
   rw[t2,s2]
   exact List.take_prefix_take_left (by omega)
  ·have o':iD g.aA<iD L':=by unfold rL at g4;omega
   refine no ((I _ rs s1 (.inl O) c' M (by omega)).trans ?_)
   refine V0 (ok.aA _ rs s1).2.1 ?_ (by omega)
   rw[s2];exact V7 _ _
theorem gq.ok.aR (ok:G.ok):∀(N:Nat)(t':Int),t'<=N->∀r,G.aA t'=some r->∀c∈G.aD,c.t<t'->c.l.take c.n<+:r.l0:=by
 intro N
 induction N with
 | zero=>intro t' ht r hr;have:=(ok.aA _ r hr).1;omega
 | succ N ih=>
  intro t' ht r hr
  refine ok.aS false t' (λs r' h1 h2=>ih s (by rcases h2 with h | ⟨h,-⟩;omega;cases h) r' h1) r.id r.l0 (ok.aA t' r hr).2.2.2.2.2
theorem gq.ok.aY (ok:G.ok){t:Int}{r:mA}(hr:G.aA t=some r){c:vP}(hc:c∈G.aD)(h:c.t<t):c.l.take c.n<+:r.l0:=
 ok.aR t.toNat t (by omega) r hr c hc h
theorem gq.ok.aZ (ok:G.ok){b:Bool}{t id:Int}{L:Es}(h:G.aK b t id L){c:vP}(hc:c∈G.aD)(hlt:c.t<t):c.l.take c.n<+:L:=
 ok.aS b t (λs r h1 _=>ok.aR s.toNat s (by omega) r h1) id L h c hc hlt
theorem gq.ok.bz (ok:G.ok){b b':Bool}{t:Int}{id u:Int}{L L':Es}(h:G.aK b t id L)(h':G.aK b' t u L'):id=u:=by
 have all:∀M b j,G.aK b t j M->∀c∈G.aD,c.t<t->c.l.take c.n<+:M:=λM b j hM c hc hlt=>ok.aZ hM hc hlt
 have lc:=xu L L'
 obtain⟨k1,k2⟩:=xr L L'
 have side:∀(M M':Es)(b b':Bool)(j j':Int),G.aK b t j M->G.aK b' t j' M'->fQ M=fQ (M.take (iE L L'))\/fQ (M.take (fQ M-1))=fQ (M.take (iE L L'))\/¬(iE L L'<=M.length/\∀n,n<=M.length->M.take n=M'.take n->n<=iE L L'):=by
  intro M M' b b' j j' hM I
  apply UC
  intro z
  rw[not_or,not_or,Classical.not_not]at z
  obtain⟨z0,E,z3,z4⟩:=z
  obtain⟨z1,z2⟩:=BD ok z3 z0 E
  have hl:=mX M
  obtain⟨g1,g2⟩:=(qq M).2 (by omega)
  obtain⟨rs,s1,s2,s3⟩:=hM.aA _ g1
  have slt:=hM.lt _ (UT g1)
  have hr:=oX s2 (by omega)
  have e:=mw s2 (i:=fQ M-1) (by omega)
  rw[Ur g1,Ur (by omega)]at e
  injection e with e
  have cf:=(ok.aD _ rs s1 (fQ M-1) (by omega) (e▸g2) s3).2
  rw[<-lp s2 (V4 _)]at cf
  obtain⟨d,d1,d2,d3,d4⟩:=cf.resolve_left (by omega)
  have d5:d.l.take (fQ (M.take (fQ M-1)))=M.take (fQ (M.take (fQ M-1))):=d4.trans (lp s2 (by omega)).symm
  obtain⟨rd,m1,m2,m3,m4,-⟩:=ok.aC d d1
  have pd:=all M' b' j' I d d1 (by omega)
  have e1:=iU pd (n:=fQ (M.take (fQ M-1))) (by simp only[UD];omega)
  rw[Va,Vk d2,d5]at e1
  have:=z4 _ (by omega) e1.symm
  omega
 obtain⟨Q,q1,q2⟩:=h.aC
 obtain⟨Q',q3,q4⟩:=h'.aC
 have A:=side L L' b b' id u h h'
 have B:=side L' L b' b u id h' h
 have m:∃n,n∈Q/\n∈Q':=by
  refine ok.aT h.aA h'.aA ?_ ?_ q1 q3
  ·rcases A with A | A | A
   ·exact .inl A
   ·exact .inr A
   ·exact absurd ⟨k1,λn hn e=>u0 e hn⟩ A
  ·rw[lc]
   rcases B with B | B | B
   ·exact .inl B
   ·exact .inr B
   ·exact absurd ⟨k2,λn hn e=>u0 e.symm (oX e hn)⟩ B
 obtain⟨v,v1,v2⟩:=m
 obtain⟨w,w1,w2,-⟩:=q2 v v1
 obtain⟨w',w3,w4,-⟩:=q4 v v2
 rw[w1]at w3
 injection w3 with w3
 subst w3
 rw[<-w2,w4]
end
def gF (D:Es)(l:fu):Es:=D.take l.aA.toNat++l.es
abbrev f_ (D:Es)(r:eZ):Es:=gF D r.aA.aA
structure fu.on (D:Es)(l:fu):Prop where
 aA:0<=l.aA/\l.aA<=D.length
 aE:l.aD=iD (D.take l.aA.toNat)
section
variable {D:Es} {l:fu}
theorem fu.on.aH (h:l.on D):((gF D l).length:Int)=l.aC:=by obtain⟨⟨h1,h2⟩,-⟩:=h;unfold gF fu.aC;simp only[Ut,UD];omega
theorem fu.on.aC (h:l.on D):(D.take l.aA.toNat).length=l.aA.toNat:=by obtain⟨⟨h1,h2⟩,-⟩:=h;simp only[UD];omega
theorem fu.on.aG (h:l.on D){n:Nat}(hn:n<=l.aA.toNat):(gF D l).take n=D.take n:=by unfold gF;rw[U0 (by rw[h.aC];omega),Va,Vk hn]
theorem fu.on.up (h:l.on D){D':Es}(hd:D<+:D'):l.on D'/\gF D' l=gF D l:=by have e:D'.take l.aA.toNat=D.take l.aA.toNat:=iU hd (by have:=h.aA;omega);refine⟨⟨⟨h.aA.1,by have:=h.aA.2;have:=hd.length_le;omega⟩,by rw[e];exact h.aE⟩,?_⟩;unfold gF;rw[e]
theorem rI {l:Es}{n:Nat}(h0:0<n)(hn:n<=l.length):iD (l.take n)=(l[n-1]'(by omega)).aA:=by rw[rH (by simp only[UD];omega)];simp only[UD,Vk hn,VK]
theorem fu.on.aJ (h:l.on D){i:Nat}(hi:l.aA.toNat<=i):(gF D l)[i]?=l.es[i-l.aA.toNat]?:=by unfold gF;rw[U1 (by rw[h.aC];exact hi),h.aC]
theorem fu.on.aD (h:l.on D){i:Int}(hi:l.aF i=true):l.aJ i=iD ((gF D l).take i.toNat):=by
 have hb:=h.aA;have hl:=h.aH;unfold fu.aF at hi;simp only[US,Vb]at hi;unfold fu.aJ;rw[Uv (by unfold fu.aF;simp only[US,Vb];exact hi)];by_cases c:i=l.aA;·rw[Uv c,c,h.aG (Uy _)];exact h.aE
 ·rw[Uw c];have h1:i.toNat<=(gF D l).length:=by omega
  rw[rI (by omega) h1];have e:=h.aJ (i:=i.toNat-1) (by omega);rw[show i.toNat-1-l.aA.toNat=(i-l.aA-1).toNat by omega,Ur (by omega)]at e;rw[<-e]
theorem fu.on.aF (h:l.on D):l.aL=iD (gF D l):=by
 unfold fu.aL;by_cases c:l.es=[];·rw[c];simp only[UJ,List.getElem?_nil];unfold gF;rw[c,Vo];exact h.aE
 ·have h1:0<l.es.length:=WG.2 c;have e:iD (gF D l)=iD l.es:=by
   unfold gF iD;rw[List.getLast?_append];cases e2:l.es.getLast? with
   | none=>simp at e2;exact absurd e2 c
   | some e=>simp
  rw[e,rH h1,Ur (by omega)]
theorem fu.on.aI (h:l.on D){from_ most:Int}(h1:l.aA<from_)(h2:1<=most):l.aI from_ most=((gF D l).drop (from_-1).toNat).take most.toNat:=by
 have hl:=h.aH;have hb:=h.aA;unfold fu.aI;by_cases c:l.aC<from_;·rw[Uv (.inr (.inl c)),Wh (by omega)];simp
 ·rw[Uw (by omega)];congr 1;unfold gF;have e0:(D.take l.aA.toNat).drop (from_-1).toNat=[]:=Wh (by rw[h.aC];omega);rw[List.drop_append,e0,h.aC,VH];congr 1;omega
end
structure jf (k:Int)(G G':gq):Prop where
 c0:G'.c0=G.c0
 aA:∀t r,G.aA t=some r->∃l',G'.aA t=some ⟨r.id,r.l0,l'⟩/\r.l<+:l'/\(r.id≠k->l'=r.l)
 aJ:∀t r',G'.aA t=some r'->G.aA t=none->r'.id=k
 aC:∀t v w,G.aC t v=some w->G'.aC t v=some w
 aL:∀t v,v≠k->G'.aC t v=G.aC t v
 aH:∀t v w,G.aG t v=some w->G'.aG t v=some w
 aK:∀t v,v≠k->G'.aG t v=G.aG t v
 aF:∀t v n,G.aE t v n->G'.aE t v n
 aG:∀t v n,v≠k->G'.aE t v n->G.aE t v n
 aI:∀c∈G.aD,c∈G'.aD
 aE:G.aH<=G'.aH
theorem jf.aD (k:Int)(G:gq):jf k G G:=
 ⟨rfl,λ_ r h=>⟨r.l,h,Vw _,λ_=>rfl⟩,λ_ _ h1 h2=>(by rw[h1]at h2;cases h2),λ_ _ _ h=>h,λ_ _ _=>rfl,λ_ _ _ h=>h,λ_ _ _=>rfl,λ_ _ _ h=>h,λ_ _ _ _ h=>h,λ_ h=>h,UL _⟩
theorem jf.aM {k:Int}{G G1 G2:gq}(a:jf k G G1)(b:jf k G1 G2):jf k G G2:=by
 refine⟨b.c0.trans a.c0,λt r h=>?_,λt r' h1 h2=>?_,λt v w h=>b.aC t v w (a.aC t v w h),λt v h=>(b.aL t v h).trans (a.aL t v h),λt v w h=>b.aH t v w (a.aH t v w h),λt v h=>(b.aK t v h).trans (a.aK t v h),
  λt v n h=>b.aF t v n (a.aF t v n h),λt v n h h'=>a.aG t v n h (b.aG t v n h h'),λc h=>b.aI c (a.aI c h),Wa a.aE b.aE⟩
 ·obtain⟨l1,h1,h2,h3⟩:=a.aA t r h;obtain⟨l2,h4,h5,h6⟩:=b.aA t _ h1;exact⟨l2,h4,h2.trans h5,λz=>(h6 z).trans (h3 z)⟩
 ·cases e:G1.aA t with
  | none=>exact b.aJ t r' h1 e
  | some r1=>obtain⟨l2,h4,h5,h6⟩:=b.aA t r1 e;rw[h1]at h4;injection h4 with h4;rw[h4];exact a.aJ t r1 e h2
theorem gq.aF.aA {k:Int}{G G':gq}{L:Es}(h:G.aF L)(g:jf k G G'):G'.aF L:=by intro i hi;obtain⟨r,h1,h2,h3⟩:=h i hi;obtain⟨l',g1,g2,-⟩:=g.aA _ r h1;refine⟨_,g1,?_,h3⟩;rw[h2,iU g2 (oX h2 (by omega))]
def gq.aI (G:gq)(t:Int)(n:Int)(L:Es):Prop:=n<=0\/n<=L.length/\∃c∈G.aD,n<=c.n/\c.t<=t/\L.take n.toNat=c.l.take n.toNat
theorem gq.aI.aC {k:Int}{G G':gq}{t n:Int}{L:Es}(h:G.aI t n L)(g:jf k G G'):G'.aI t n L:=h.imp (λz=>z) λ⟨hl,c,h1,h2⟩=>⟨hl,c,g.aI c h1,h2⟩
theorem gq.aI.aA {G:gq}{t t' n n':Int}{L:Es}(h:G.aI t n L)(ht:t<=t')(hn:n'<=n):G.aI t' n' L:=by
 by_cases c:n'<=0
 ·exact .inl c
 ·rcases h with h | ⟨hl,c',h1,h2,h3,h4⟩;·omega
  ·exact .inr ⟨by omega,c',h1,by omega,by omega,lp h4 (by omega)⟩
theorem gq.aI.of {G:gq}{t n:Int}{L L':Es}(h:G.aI t n L)(e:L'.take n.toNat=L.take n.toNat):G.aI t n L':=h.imp (λz=>z) λ⟨hl,c,h1,h2,h3,h4⟩=>⟨by have:=oX e.symm (by omega);omega,c,h1,h2,h3,e.trans h4⟩
theorem gq.ok.aX {G:gq}(ok:G.ok){c:vP}(hc:c∈G.aD){t:Int}{x:mA}(hx:G.aA t=some x)(h:c.t<=t):c.l.take c.n<+:x.l:=by
 by_cases e:c.t=t
 ·obtain⟨r,l1,l2,-⟩:=ok.aC c hc
  rw[e,hx]at l1
  injection l1 with l1
  subst l1
  exact (V7 _ _).trans l2
 ·exact (ok.aY hx hc (by omega)).trans (ok.aA t x hx).2.1
theorem gq.ok.aJ {G:gq}(ok:G.ok){t n:Int}{L:Es}(h:G.aI t n L){x:mA}(hx:G.aA t=some x):L.take n.toNat=x.l.take n.toNat/\n.toNat<=x.l.length:=by
 rcases h with h | ⟨hl,c,h1,h2,h3,h4⟩
 ·rw[show n.toNat=0 by omega];simp
 ·have p:=ok.aX h1 hx h3
  obtain⟨r,l1,l2,l3,l4,-⟩:=ok.aC c h1
  have hn:n.toNat<=(c.l.take c.n).length:=by simp only[UD];omega
  have e:=iU p hn
  rw[Va,Vk (by omega)]at e
  exact⟨by rw[h4,e],UH hn p.length_le⟩
theorem gq.ok.aQ {G:gq}(ok:G.ok){t t' n n':Int}{L L':Es}(h:G.aI t n L)(h':G.aI t' n' L')(hn:n<=n'):L.take n.toNat=L'.take n.toNat:=by
 rcases id h with z | ⟨hl,c,h1,h2,h3,h4⟩
 ·rw[show n.toNat=0 by omega];simp
 ·rcases id h' with z | ⟨hl',c',g1,g2,g3,g4⟩
  ·rw[show n.toNat=0 by omega];simp
  ·have e':L'.take n.toNat=c'.l.take n.toNat:=lp g4 (by omega)
   rw[h4,e']
   obtain⟨r,l1,l2,l3,l4,-⟩:=ok.aC c h1
   obtain⟨r',m1,m2,m3,m4,-⟩:=ok.aC c' g1
   by_cases o:c.t<=c'.t
   ·have a:=ok.aJ (t:=c'.t) (n:=n) (L:=c.l) (.inr ⟨by omega,c,h1,by omega,o,rfl⟩) m1
    rw[a.1,iU m2 (by omega)]
   ·have a:=ok.aJ (t:=c.t) (n:=n) (L:=c'.l) (.inr ⟨by omega,c',g1,by omega,by omega,rfl⟩) l1
    rw[a.1,iU l2 (by omega)]
structure gB (G:gq)(D:Es)(r:eZ):Prop where
 id:(1<=r.id/\r.id<=7)/\r.aA.aC<=G.aH
 on:r.aA.aA.on D
 aC:G.aF (f_ D r)
 aI:Glb.mJ (f_ D r)
 le:∀e∈f_ D r,e.aA<=r.aA.aC
 aK:r.aA.aD=iL G.c0 (D.take r.aA.aA.aA.toNat)
 aG:gI r.aA.aG/\r.aA.aG.length<=1
 aD:r.aA.aA.aA<=r.aH/\r.aH<=r.aE/\r.aE<=r.aA.aA.aC
 aF:(f_ D r).take r.aH.toNat=D.take r.aH.toNat/\r.aH<=D.length
 aA:G.aI r.aA.aC r.aE (f_ D r)
 aE:0<=r.aA.aC
 aH:∀t w,G.aC t r.id=some w->t<=r.aA.aC/\(t=r.aA.aC->r.aA.aF=w.aC/\w.aC≠0)
 aP:r.aA.aF≠0->∃w,G.aC r.aA.aC r.id=some w/\w.aC=r.aA.aF
 aL:∀t L,G.aG t r.id=some L->t<=r.aA.aC
 aM:∀t x,G.aA t=some x->x.id=r.id->t<=r.aA.aC
 aJ:∀t n,G.aE t r.id n->t<=r.aA.aC/\∀x,G.aA t=some x->x.l.take n<+:f_ D r\/∃s y,t<s/\s<=r.aA.aC/\G.aA s=some y/\¬x.l.take n<+:y.l0
 aR:r.aG=0\/r.aG=1\/r.aG=2
 aS:r.aG=1->(0<r.aA.aC/\r.aA.aF≠0)/\G.aG r.aA.aC r.id=some (f_ D r)/\(∀v∈r.aI,∃w,G.aC r.aA.aC v=some w/\w.aC=r.id)/\∀x,G.aA r.aA.aC=some x->x.id≠r.id
 aN:r.aG=2->∃l0,G.aA r.aA.aC=some ⟨r.id,l0,f_ D r⟩
 aO:∀f∈r.aC,(1<=f.aC/\f.aC<=r.aA.aA.aC+1)/\(0<=f.aE/\f.aE<=r.aA.aA.aC)/\(f.aE=0\/G.aE r.aA.aC f.aD f.aE.toNat)
structure IJ (G:gq)(m:fE):Prop where
 aA:(1<=m.aC/\m.aC<=7)/\m.aF<=G.aH
 es:m.es.length<=8/\(m.aD≠3->m.es=[])
 aE:gI m.aG/\m.aG.length<=2^16
 aD:0<=m.aH/\m.aH<=m.aF
 aC:3<=m.aD->0<=m.aA/\(m.aA=0\/∃t w,G.aA t=some w/\m.aA<=w.l.length)
structure kO (G:gq)(D:Es)(m:fE):Prop where
 aA:IJ G m
 aG:m.aD=1->∃L,G.aG m.aF m.aC=some L/\m.aA=L.length/\m.aH=iD L
 aH:m.aD=2->m.ok=true->∃w,G.aC m.aF m.aC=some w/\w.aC=m.to
 aD:m.aD=3->∃x,G.aA m.aF=some x/\0<=m.aA/\m.aA+m.es.length<=x.l.length/\m.aH=iD (x.l.take m.aA.toNat)/\m.es=(x.l.drop m.aA.toNat).take m.es.length/\G.aI m.aF m.aJ x.l
 aE:m.aD=4->m.ok=true->0<=m.aA/\(m.aA=0\/G.aE m.aF m.aC m.aA.toNat)
 aF:m.aD=5->∃x,G.aA m.aF=some x/\0<=m.aA/\m.aA<=D.length/\m.aH=iD (D.take m.aA.toNat)/\G.aI m.aF m.aA (D.take m.aA.toNat)/\(iH m.aG).2.2=0/\ie (iH m.aG).1=(iL G.c0 (D.take m.aA.toNat),0)/\gI (iH m.aG).2.1/\(iH m.aG).2.1.length<=1
theorem kO.aC {k:Int}{G G':gq}{D D':Es}{m:fE}(h:kO G D m)(g:jf k G G')(hd:D<+:D'):kO G' D' m:=by
 refine⟨⟨⟨h.aA.aA.1,Wa h.aA.aA.2 g.aE⟩,h.aA.es,h.aA.aE,h.aA.aD,λe=>⟨(h.aA.aC e).1,(h.aA.aC e).2.imp (λz=>z) λ⟨t,w,w1,w2⟩=>let⟨l',g1,g2,_⟩:=g.aA t w w1;⟨t,_,g1,by have:=g2.length_le;show m.aA<=(l'.length:Int);omega⟩⟩⟩,λe=>?_,λe o=>?_,λe=>?_,λe o=>?_,λe=>?_⟩;·obtain⟨L,h1,h2⟩:=h.aG e;exact⟨L,g.aH _ _ _ h1,h2⟩
 ·obtain⟨w,h1,h2⟩:=h.aH e o;exact⟨w,g.aC _ _ _ h1,h2⟩
 ·obtain⟨x,h1,h2,h3,h4,h5,h6⟩:=h.aD e;obtain⟨l',g1,g2,-⟩:=g.aA _ x h1;have e1:l'.take m.aA.toNat=x.l.take m.aA.toNat:=iU g2 (by omega);have e2:(l'.drop m.aA.toNat).take m.es.length=(x.l.drop m.aA.toNat).take m.es.length:=by have:=iU g2 (n:=m.aA.toNat+m.es.length) (by omega);rw[List.take_drop,List.take_drop,this]
  refine⟨_,g1,h2,by have:=g2.length_le;show m.aA+_<=(l'.length:Int);omega,by show m.aH=iD (l'.take _);rw[e1];exact h4,by show m.es=(l'.drop _).take _;rw[e2];exact h5,?_⟩;show G'.aI _ _ l';rcases h6 with z | ⟨hl,c,c1,c2,c3,c4⟩;·exact .inl z
  ·exact .inr ⟨by have:=g2.length_le;omega,c,g.aI c c1,c2,c3,(iU g2 (by omega)).trans c4⟩
 ·obtain⟨h1,h2⟩:=h.aE e o;exact⟨h1,h2.imp (λz=>z) (g.aF _ _ _)⟩
 ·obtain⟨x,h1,h2,h3,h4,h5,h6,h7⟩:=h.aF e;obtain⟨l',g1,g2,-⟩:=g.aA _ x h1;have e1:D'.take m.aA.toNat=D.take m.aA.toNat:=iU hd (by omega);rw[g.c0,e1];exact⟨_,g1,h2,by have:=hd.length_le;omega,h4,h5.aC g,h6,h7⟩
section
variable {G:gq} {D:Es} {r:eZ}
theorem gB.bA {k:Int}{G':gq}{D':Es}(ok:G.ok)(h:gB G D r)(g:jf k G G')(hd:D<+:D')(hk:r.id≠k):gB G' D' r:=by
 obtain⟨on',ef⟩:=h.on.up hd
 have ef:f_ D' r=f_ D r:=ef
 have eb:D'.take r.aA.aA.aA.toNat=D.take r.aA.aA.aA.toNat:=iU hd (by have:=h.on.aA;omega)
 have ea:D'.take r.aH.toNat=D.take r.aH.toNat:=iU hd (by have:=h.aF.2;omega)
 refine⟨⟨h.id.1,Wa h.id.2 g.aE⟩,on',by rw[ef];exact h.aC.aA g,by rw[ef];exact h.aI,by rw[ef];exact h.le,by rw[eb,g.c0];exact h.aK,h.aG,h.aD,⟨by rw[ef,ea];exact h.aF.1,by have:=h.aF.2;have:=hd.length_le;omega⟩,by rw[ef];exact h.aA.aC g,h.aE,λt w e=>h.aH t w (by rwa [g.aL t _ hk]at e),λe=>?_,λt L e=>h.aL t L (by rwa [g.aK t _ hk]at e),λt x e hx=>?_,λt n e=>?_,h.aR,λe=>?_,λe=>?_,λf hf=>?_⟩
 ·obtain⟨w,h1,h2⟩:=h.aP e;exact⟨w,g.aC _ _ _ h1,h2⟩
 ·cases e2:G.aA t with
  | none=>exact absurd (g.aJ t x e e2) (by rw[hx];exact hk)
  | some y=>
   obtain⟨l',g1,g2,g3⟩:=g.aA t y e2
   rw[e]at g1
   injection g1 with g1
   exact h.aM t y e2 (by rw[g1]at hx;exact hx)
 ·obtain⟨h1,h2⟩:=h.aJ t n (g.aG t _ n hk e)
  refine⟨h1,λx hx=>?_⟩
  obtain⟨y,y1,y2⟩:=ok.aE t _ n (g.aG t _ n hk e)
  obtain⟨l',g1,g2,-⟩:=g.aA t y y1
  rw[hx]at g1
  injection g1 with g1
  have e3:x.l.take n=y.l.take n:=by rw[g1];exact iU g2 y2
  rw[e3,ef]
  refine (h2 y y1).imp (λz=>z) λ⟨s,z,z1,z2,z3,z4⟩=>?_
  obtain⟨l'',g4,-,-⟩:=g.aA s z z3
  exact⟨s,_,z1,z2,g4,z4⟩
 ·obtain⟨h0,h1,h2,h3⟩:=h.aS e
  refine⟨h0,by rw[ef];exact g.aH _ _ _ h1,λv hv=>?_,λx hx=>?_⟩
  ·obtain⟨w,w1,w2⟩:=h2 v hv;exact⟨w,g.aC _ _ _ w1,w2⟩
  ·cases e2:G.aA r.aA.aC with
   | none=>rw[g.aJ _ x hx e2];exact λz=>hk z.symm
   | some y=>
    obtain⟨l',g1,-,-⟩:=g.aA _ y e2
    rw[hx]at g1
    injection g1 with g1
    rw[g1]
    exact h3 y e2
 ·obtain⟨l0,h1⟩:=h.aN e
  obtain⟨l',g1,-,g3⟩:=g.aA _ _ h1
  have:=g3 hk
  simp only at this g1
  rw[this]at g1
  exact⟨l0,by rw[ef];exact g1⟩
 ·obtain⟨h1,h2,h3⟩:=h.aO f hf;exact⟨h1,h2,h3.imp (λz=>z) (g.aF _ _ _)⟩
theorem gB.bB {D':Es}(h:gB G D r)(hd:D<+:D'):gB G D' r:=by obtain⟨u,ef⟩:=h.on.up hd;have ef:f_ D' r=f_ D r:=ef;have eb:D'.take r.aA.aA.aA.toNat=D.take r.aA.aA.aA.toNat:=iU hd (by have:=h.on.aA;omega);have ea:D'.take r.aH.toNat=D.take r.aH.toNat:=iU hd (by have:=h.aF.2;omega);exact⟨h.id,u,by rw[ef];exact h.aC,by rw[ef];exact h.aI,by rw[ef];exact h.le,by rw[eb];exact h.aK,h.aG,h.aD,⟨by rw[ef,ea];exact h.aF.1,by have:=h.aF.2;have:=hd.length_le;omega⟩,by rw[ef];exact h.aA,h.aE,h.aH,h.aP,h.aL,h.aM,λt n e=>by rw[ef];exact h.aJ t n e,h.aR,λe=>by rw[ef];exact h.aS e,λe=>by rw[ef];exact h.aN e,h.aO⟩
theorem gB.of {r':eZ}(h:gB G D r)(e1:r'.id=r.id)(e2:r'.aA=r.aA)(e3:r'.aH=r.aH)(e4:r'.aE=r.aE)(e5:r'.aG=r.aG)(e6:r'.aI=r.aI)(e7:r'.aC=r.aC):gB G D r':=by obtain⟨id,hard,commit,applied,role,leader,elapsed,timeout,granted,flows,round,beat⟩:=r;obtain⟨id',hard',commit',applied',role',leader',elapsed',timeout',granted',flows',round',beat'⟩:=r';simp only at e1 e2 e3 e4 e5 e6 e7;subst e1 e2 e3 e4 e5 e6 e7;exact⟨h.id,h.on,h.aC,h.aI,h.le,h.aK,h.aG,h.aD,h.aF,h.aA,h.aE,h.aH,h.aP,h.aL,h.aM,h.aJ,h.aR,h.aS,h.aN,h.aO⟩
theorem gB.aW (h:gB G D r)(l:Int):gB G D (r.aW l):=
 ⟨h.id,h.on,h.aC,h.aI,h.le,h.aK,h.aG,h.aD,h.aF,h.aA,h.aE,h.aH,h.aP,h.aL,h.aM,h.aJ,.inl rfl,(λe=>by cases e),(λe=>by cases e),(λf hf=>by cases hf)⟩
theorem gB.up (h:gB G D r){t:Int}(ht:r.aA.aC<t)(u:t<=G.aH)(l:Int):gB G D (({r with aA:={r.aA with aC:=t,aF:=0}}:eZ).aW l):=
 ⟨⟨h.id.1,u⟩,h.on,h.aC,h.aI,λe he=>by have:=h.le e he;show e.aA<=t;omega,h.aK,h.aG,h.aD,h.aF,h.aA.aA (Int.le_of_lt ht) (UL _),by show 0<=t;have:=h.aE;omega,
  λt' w e=>⟨by have:=(h.aH t' w e).1;show t'<=t;omega,λz=>by have:=(h.aH t' w e).1;have z':t'=t:=z;omega⟩,λe=>absurd rfl e,λt' L e=>by have:=h.aL t' L e;show t'<=t;omega,
  λt' x e hx=>by have:=h.aM t' x e hx;show t'<=t;omega,λt' n e=>⟨by have:=(h.aJ t' n e).1;show t'<=t;omega,λx hx=>((h.aJ t' n e).2 x hx).imp (λz=>z) λ⟨s,y,y1,y2,y3⟩=>⟨s,y,y1,(by show s<=t;omega),y3⟩⟩,
  .inl rfl,(λe=>by cases e),(λe=>by cases e),(λf hf=>by cases hf)⟩
theorem OP {x:fF}(u:x.aA.on D)(cf:x.aD=iL G.c0 (D.take x.aA.aA.toNat)):x.of.1=iL G.c0 (gF D x.aA)/\(x.of.2<=x.aA.aA/\fQ (gF D x.aA)<=x.aA.aA.toNat\/x.of.2=fQ (gF D x.aA)):=by
 have key:∀es:Es,(jQ es es.length=none->iL G.c0 (D.take x.aA.aA.toNat++es)=iL G.c0 (D.take x.aA.aA.toNat)/\fQ (D.take x.aA.aA.toNat++es)=fQ (D.take x.aA.aA.toNat)) /\
   (∀c k,jQ es es.length=some (c,k)->iL G.c0 (D.take x.aA.aA.toNat++es)=c/\fQ (D.take x.aA.aA.toNat++es)=(D.take x.aA.aA.toNat).length+k+1):=by
  intro es;induction es using xM with
  | h0=>exact⟨λ_=>by simp,λc k e=>by cases e⟩
  | h1 es e ih=>
   rw[BH,<-UW,wY,wX];by_cases ce:e.aE;·rw[Uv ce,Uv ce,Uv ce];refine⟨λz=>(by cases z),λc k z=>?_⟩;cases z;exact⟨rfl,by simp⟩
   ·rw[Uw ce,Uw ce,Uw ce];exact ih
 obtain⟨k1,k2⟩:=key x.aA.es;have hb:=u.aA;unfold fF.of fF.aK;cases e:jQ x.aA.es x.aA.es.length with
 | none=>
  obtain⟨a,b⟩:=k1 e;refine⟨?_,.inl ⟨UL _,?_⟩⟩;·show x.aD=iL G.c0 (gF D x.aA);unfold gF;rw[a];exact cf
  ·show fQ (gF D x.aA)<=_;unfold gF;rw[b];have:=mX (D.take x.aA.aA.toNat);rw[u.aC]at this;exact this
 | some p=>
  obtain⟨c,k⟩:=p;obtain⟨a,b⟩:=k2 c k e;refine⟨?_,.inr ?_⟩;·show c=iL G.c0 (gF D x.aA);unfold gF;rw[a]
  ·show x.aA.aA+1+k=fQ (gF D x.aA);unfold gF;rw[b,u.aC];omega
theorem gB.aY (h:gB G D r):r.aA.of.1=iL G.c0 (f_ D r)/\(r.aA.of.2<=r.aA.aA.aA/\fQ (f_ D r)<=r.aA.aA.aA.toNat\/r.aA.of.2=fQ (f_ D r)):=OP h.on h.aK
theorem gB.aT (h:gB G D r):r.aN=iL G.c0 (f_ D r):=h.aY.1
theorem gB.aQ (h:gB G D r):((f_ D r).length:Int)=r.aA.aA.aC:=h.on.aH
theorem gB.bz (ok:G.ok)(h:gB G D r){c:Int}{L:Es}(hv:r.aA.aF=0)(I:c≠0)(hc:G.aG r.aA.aC c=some L)(hn:rL L (f_ D r))(hr:r.aG=0\/r.aG=2):
  ∃G',G'.ok/\jf r.id G G'/\(G'.aA=G.aA/\G'.aH=G.aH)/\(∃w,G'.aC r.aA.aC r.id=some w/\w.aC=c)/\gB G' D {r with aA:={r.aA with aF:=c}}:=by
 have no:G.aC r.aA.aC r.id=none:=by
  cases e:G.aC r.aA.aC r.id with
  | none=>rfl
  | some w=>have:=(h.aH _ w e).2 rfl;omega
 obtain⟨gv,E⟩:∃gv:Int->Int->Option yw,gv=λt v=>if t=r.aA.aC/\v=r.id then some ⟨c,f_ D r,(G.aA r.aA.aC).isSome⟩ else G.aC t v:=⟨_,rfl⟩
 have sub:∀t v w,G.aC t v=some w->gv t v=some w:=λt v w e=>by
  rw[E];simp only
  by_cases z:t=r.aA.aC/\v=r.id
  ·rw[z.1,z.2,no]at e;cases e
  ·rw[Uw z];exact e
 have u:∀t v w,gv t v=some w->(t=r.aA.aC/\v=r.id/\w=⟨c,f_ D r,(G.aA r.aA.aC).isSome⟩)\/G.aC t v=some w:=λt v w e=>by
  rw[E]at e;simp only at e
  by_cases z:t=r.aA.aC/\v=r.id
  ·rw[Uv z]at e;injection e with e;exact .inl ⟨z.1,z.2,e.symm⟩
  ·rw[Uw z]at e;exact .inr e
 have new:gv r.aA.aC r.id=some ⟨c,f_ D r,(G.aA r.aA.aC).isSome⟩:=by rw[E];simp
 refine⟨⟨G.c0,G.aA,gv,G.aG,G.aE,G.aD,G.aH⟩,⟨ok.aK,ok.aG,λt x e=>?_,λt v w e=>?_,ok.aE,ok.aI,λt v n t' w x e1 e2 e3 e4=>?_,λt v w e=>?_,λt v w e hl=>?_,ok.aF,ok.aC,ok.aO,ok.aD⟩,⟨rfl,λt x e=>⟨x.l,e,Vw _,λ_=>rfl⟩,λt x e1 e2=>(by have e1:G.aA t=some x:=e1;rw[e2]at e1;cases e1),sub,λt v hv=>(by show gv t v=_;rw[E];simp[hv]),λ_ _ _ e=>e,λ_ _ _=>rfl,λ_ _ _ e=>e,λ_ _ _ _ e=>e,λ_ e=>e,UL _⟩,⟨rfl,rfl⟩,⟨_,new,rfl⟩,?_⟩
 ·obtain⟨a1,a2,a3,a4,a5,a6⟩:=ok.aA t x e
  obtain⟨Q,q1,q2⟩:=a6.aC
  exact⟨a1,a2,a3,a4,a5,a6.aA,a6.aD,a6.lt,Q,q1,λv hv=>let⟨w,w1,w2⟩:=q2 v hv;⟨w,sub _ _ _ w1,w2⟩⟩
 ·rcases u t v w e with⟨rfl,rfl,rfl⟩ | e
  ·exact⟨h.aC,h.aI⟩
  ·exact ok.aH t v w e
 ·rcases u t' v w e2 with⟨rfl,rfl,rfl⟩ | e2
  ·refine ((h.aJ t n e1).2 x e4).imp (λz=>z) λ⟨s,y,y1,y2,y3,y4⟩=>⟨s,y,y1,?_,y3,y4⟩
   by_cases z:s<r.aA.aC
   ·exact .inl z
   ·have z:s=r.aA.aC:=by omega
    exact .inr ⟨by rw[<-z,y3];rfl,z⟩
  ·exact ok.aL t v n t' w x e1 e2 e3 e4
 ·rcases u t v w e with⟨rfl,rfl,rfl⟩ | e
  ·exact⟨L,hc,hn⟩
  ·exact ok.aM t v w e
 ·rcases u t v w e with⟨rfl,rfl,rfl⟩ | e
  ·exact Wq.1 hl
  ·exact ok.aN t v w e hl
 ·refine⟨h.id,h.on,h.aC,h.aI,h.le,h.aK,h.aG,h.aD,h.aF,h.aA,h.aE,λt w e=>?_,λ_=>⟨_,new,rfl⟩,h.aL,h.aM,h.aJ,h.aR,λe=>?_,h.aN,h.aO⟩
  ·rcases u t _ w e with⟨rfl,_,rfl⟩ | e
   ·exact⟨UL _,λ_=>⟨rfl,I⟩⟩
   ·refine⟨(h.aH t w e).1,λz=>?_⟩
    have z':t=r.aA.aC:=z
    rw[z',no]at e;cases e
  ·have e:r.aG=1:=e
   omega
theorem gB.bH (ok:G.ok)(h:gB G D r)(h0:r.id≠0)(tm el:Int):
  ∃G',G'.ok/\jf r.id G G'/\G'.aA=G.aA/\G'.aH<=G.aH+1/\G'.aG (r.aA.aC+1) r.id=some (f_ D r)/\gB G' D {r with aA:={r.aA with aC:=r.aA.aC+1,aF:=r.id},aG:=1,aX:=0,aK:=el,aY:=tm,aC:=[],aI:=[r.id]}:=by
 have h00:=h.aE
 have no:G.aC (r.aA.aC+1) r.id=none:=by
  cases e:G.aC (r.aA.aC+1) r.id with
  | none=>rfl
  | some w=>have:=(h.aH _ w e).1;omega
 have W:G.aG (r.aA.aC+1) r.id=none:=by
  cases e:G.aG (r.aA.aC+1) r.id with
  | none=>rfl
  | some w=>have:=h.aL _ w e;omega
 obtain⟨gv,O⟩:∃gv:Int->Int->Option yw,gv=λt v=>if t=r.aA.aC+1/\v=r.id then some ⟨r.id,f_ D r,(G.aA (r.aA.aC+1)).isSome⟩ else G.aC t v:=⟨_,rfl⟩
 obtain⟨cd,U⟩:∃cd:Int->Int->Option Es,cd=λt v=>if t=r.aA.aC+1/\v=r.id then some (f_ D r) else G.aG t v:=⟨_,rfl⟩
 have sub:∀t v w,G.aC t v=some w->gv t v=some w:=λt v w e=>by
  rw[O];simp only
  by_cases z:t=r.aA.aC+1/\v=r.id
  ·rw[z.1,z.2,no]at e;cases e
  ·rw[Uw z];exact e
 have E:∀t v w,G.aG t v=some w->cd t v=some w:=λt v w e=>by
  rw[U];simp only
  by_cases z:t=r.aA.aC+1/\v=r.id
  ·rw[z.1,z.2,W]at e;cases e
  ·rw[Uw z];exact e
 have M:∀t v w,gv t v=some w->(t=r.aA.aC+1/\v=r.id/\w=⟨r.id,f_ D r,(G.aA (r.aA.aC+1)).isSome⟩)\/G.aC t v=some w:=λt v w e=>by
  rw[O]at e;simp only at e
  by_cases z:t=r.aA.aC+1/\v=r.id
  ·rw[Uv z]at e;injection e with e;exact .inl ⟨z.1,z.2,e.symm⟩
  ·rw[Uw z]at e;exact .inr e
 have I:∀t v w,cd t v=some w->(t=r.aA.aC+1/\v=r.id/\w=f_ D r)\/G.aG t v=some w:=λt v w e=>by
  rw[U]at e;simp only at e
  by_cases z:t=r.aA.aC+1/\v=r.id
  ·rw[Uv z]at e;injection e with e;exact .inl ⟨z.1,z.2,e.symm⟩
  ·rw[Uw z]at e;exact .inr e
 have new:gv (r.aA.aC+1) r.id=some ⟨r.id,f_ D r,(G.aA (r.aA.aC+1)).isSome⟩:=by rw[O];simp
 have u:cd (r.aA.aC+1) r.id=some (f_ D r):=by rw[U];simp
 refine⟨⟨G.c0,G.aA,gv,cd,G.aE,G.aD,max G.aH (r.aA.aC+1)⟩,⟨ok.aK,ok.aG,λt x e=>?_,λt v w e=>?_,ok.aE,ok.aI,λt v n t' w x e1 e2 e3 e4=>?_,λt v w e=>?_,λt v w e hl=>?_,λt v L e=>?_,ok.aC,ok.aO,ok.aD⟩,⟨rfl,λt x e=>⟨x.l,e,Vw _,λ_=>rfl⟩,λt x e1 e2=>(by have e1:G.aA t=some x:=e1;rw[e2]at e1;cases e1),sub,λt v hv=>(by show gv t v=_;rw[O];simp[hv]),E,λt v hv=>(by show cd t v=_;rw[U];simp[hv]),λ_ _ _ e=>e,λ_ _ _ _ e=>e,λ_ e=>e,by show G.aH<=max _ _;omega⟩,rfl,by show max _ _<=_;have:=h.id.2;omega,u,?_⟩
 ·obtain⟨a1,a2,a3,a4,a5,a6⟩:=ok.aA t x e
  obtain⟨Q,q1,q2⟩:=a6.aC
  exact⟨a1,a2,a3,a4,a5,a6.aA,a6.aD,a6.lt,Q,q1,λv hv=>let⟨w,w1,w2⟩:=q2 v hv;⟨w,sub _ _ _ w1,w2⟩⟩
 ·rcases M t v w e with⟨rfl,rfl,rfl⟩ | e
  ·exact⟨h.aC,h.aI⟩
  ·exact ok.aH t v w e
 ·rcases M t' v w e2 with⟨rfl,rfl,rfl⟩ | e2
  ·refine ((h.aJ t n e1).2 x e4).imp (λz=>z) λ⟨s,y,y1,y2,y3,y4⟩=>⟨s,y,y1,.inl (by omega),y3,y4⟩
  ·exact ok.aL t v n t' w x e1 e2 e3 e4
 ·rcases M t v w e with⟨rfl,rfl,rfl⟩ | e
  ·exact⟨_,u,.inr ⟨rfl,Uy _⟩⟩
  ·obtain⟨L,l1,l2⟩:=ok.aM t v w e;exact⟨L,E _ _ _ l1,l2⟩
 ·rcases M t v w e with⟨rfl,rfl,rfl⟩ | e
  ·exact Wq.1 hl
  ·exact ok.aN t v w e hl
 ·rcases I t v L e with⟨rfl,rfl,rfl⟩ | e
  ·exact⟨h.aC,h.aI,λe he=>by have:=h.le e he;omega⟩
  ·exact ok.aF t v L e
 ·refine⟨⟨h.id.1,by show r.aA.aC+1<=max _ _;omega⟩,h.on,h.aC,h.aI,λe he=>by have:=h.le e he;show e.aA<=r.aA.aC+1;omega,h.aK,h.aG,h.aD,h.aF,h.aA.aA (by show r.aA.aC<=r.aA.aC+1;omega) (UL _),by show 0<=r.aA.aC+1;omega,λt w e=>?_,λ_=>⟨_,new,rfl⟩,λt L e=>?_,λt x e hx=>?_,λt n e=>?_,.inr (.inl rfl),λ_=>⟨⟨by show 0<r.aA.aC+1;omega,h0⟩,u,λv hv=>?_,λx hx=>?_⟩,(λe=>by cases e),(λf hf=>by cases hf)⟩
  ·rcases M t _ w e with⟨rfl,_,rfl⟩ | e
   ·exact⟨UL _,λ_=>⟨rfl,h0⟩⟩
   ·have:=(h.aH t w e).1
    exact⟨by show t<=r.aA.aC+1;omega,λz=>by have z':t=r.aA.aC+1:=z;omega⟩
  ·rcases I t _ L e with⟨rfl,_,rfl⟩ | e
   ·exact UL _
   ·have:=h.aL t L e;show t<=r.aA.aC+1;omega
  ·have:t<=r.aA.aC:=h.aM t x e hx;show t<=r.aA.aC+1;omega
  ·obtain⟨a,b⟩:=h.aJ t n e
   exact⟨by show t<=r.aA.aC+1;omega,λx hx=>(b x hx).imp (λz=>z) λ⟨s,y,y1,y2,y3⟩=>⟨s,y,y1,(by show s<=r.aA.aC+1;omega),y3⟩⟩
  ·obtain rfl:v=r.id:=by simpa using hv
   exact⟨_,new,rfl⟩
  ·intro z
   have:r.aA.aC+1<=r.aA.aC:=h.aM _ x hx z
   omega
end
section
variable {G:gq} {D:Es} {r:eZ}
theorem gq.ok.bA {G:gq}(ok:G.ok){L:Es}(h:G.aF L){i:Nat}(hi:i<L.length):L[i].aF:=by
 obtain⟨x,h1,h2,-⟩:=h i hi
 have e:=mw h2 (i:=i) (by omega)
 have hl:=oX h2 (by omega)
 rw[Ur hi,Ur (by omega)]at e
 injection e with e
 rw[e]
 exact ok.aG _ x h1 _ (UT _)
theorem gq.aF.aE {G:gq}{L:Es}{e:fT}(h:G.aF L){x:mA}(h1:G.aA e.aA=some x) (h2:L++[e]=x.l.take (L.length+1)) (h3:x.l0.length<=L.length):G.aF (L++[e]):=by
 intro i hi;by_cases c:i<L.length;·rw[VM c];obtain⟨r,r1,r2,r3⟩:=h i c;refine⟨r,r1,?_,r3⟩;rw[U0 (by omega)];exact r2
 ·have:i=L.length:=by simp at hi;omega
  subst this;rw[VU (Uy _)];simp only[WL,VV];refine⟨x,h1,?_,h3⟩;rw[<-h2,UU (by simp)]
theorem Q3 {L : Es} {e : fT} (h : mJ L) (he : ∀ a ∈ L, a.aA <= e.aA) : mJ (L ++ [e]) := by
  unfold mJ
  rw [List.pairwise_append]
  exact ⟨h, List.pairwise_singleton _ _, fun a ha b hb => by obtain rfl : b = e := by simpa using hb
                                                             exact he a ha⟩
def eZ.bA (r:eZ)(e:fT):eZ:={r with aA:={r.aA with aA:=⟨r.aA.aA.aA,r.aA.aA.aD,r.aA.aA.es++[e]⟩}}
theorem Mj (D:Es)(r:eZ)(e:fT):f_ D (r.bA e)=f_ D r++[e]:=by show gF D _=gF D _++_;unfold gF eZ.bA;simp only[UW]
theorem Pw (r:eZ)(e:fT):(r.bA e).aA.aA.aC=r.aA.aA.aC+1:=by unfold eZ.bA fu.aC;simp;omega
theorem gq.ok.bw (ok:G.ok){t id:Int}{L:Es}{e:fT}(w:G.aK true t id L)(he:e.aA=t)(hc:¬e.aE)(hs:e.aF)(h0:0<t)(hno:∀x,G.aA t=some x->x.id≠id):
  ∃G',G'.ok/\jf id G G'/\G.aA t=none/\G'.aA t=some ⟨id,L,L++[e]⟩/\(∀s,s≠t->G'.aA s=G.aA s)/\G'.aC=G.aC/\G'.aG=G.aG/\G'.aE=G.aE/\G'.aD=G.aD/\G'.aH=G.aH:=by
 have none':G.aA t=none:=by
  cases e:G.aA t with
  | none=>rfl
  | some x=>exact absurd (ok.bz (ok.aA t x e).2.2.2.2.2 w) (hno x e)
 obtain⟨ld,hld⟩:∃ld:Int->Option mA,ld=λs=>if s=t then some ⟨id,L,L++[e]⟩ else G.aA s:=⟨_,rfl⟩
 have new:ld t=some ⟨id,L,L++[e]⟩:=by rw[hld];simp
 have old:∀s,s≠t->ld s=G.aA s:=λs hs=>by rw[hld];simp[hs]
 have sub:∀s x,G.aA s=some x->ld s=some x:=λs x hx=>by
  by_cases c:s=t
  ·rw[c,none']at hx;cases hx
  ·rw[old s c];exact hx
 have inv:∀s x,ld s=some x->(s=t/\x=⟨id,L,L++[e]⟩)\/G.aA s=some x:=λs x hx=>by
  by_cases c:s=t
  ·rw[c,new]at hx;injection hx with hx;exact .inl ⟨c,hx.symm⟩
  ·rw[old s c]at hx;exact .inr hx
 have g:jf id G ⟨G.c0,ld,G.aC,G.aG,G.aE,G.aD,G.aH⟩:=⟨rfl,λs x hx=>⟨x.l,sub s x hx,Vw _,λ_=>rfl⟩,λs x h1 h2=>(by
  rcases inv s x h1 with⟨_,z⟩ | z
  ·rw[z]
  ·rw[h2]at z;cases z),λ_ _ _ h=>h,λ_ _ _=>rfl,λ_ _ _ h=>h,λ_ _ _=>rfl,λ_ _ _ h=>h,λ_ _ _ _ h=>h,λ_ h=>h,UL _⟩
 have late:∀v w,G.aC t v=some w->w.aD=false:=λv w hv=>by
  cases c:w.aD with
  | false=>rfl
  | true=>obtain⟨x,hx⟩:=ok.aN t v w hv c;rw[none']at hx;cases hx
 have wf:(gq.mk G.c0 ld G.aC G.aG G.aE G.aD G.aH).aK false t id L:=by
  obtain⟨Q,q1,q2⟩:=w.aC
  refine⟨w.aA.aA g,w.aD,w.lt,Q,q1,λv hv=>?_⟩
  obtain⟨a,a1,a2,a3,a4⟩:=q2 v hv
  exact⟨a,a1,a2,(λz=>(by rw[late v a a1]at z;cases z)),a4⟩
 refine⟨gq.mk G.c0 ld G.aC G.aG G.aE G.aD G.aH,⟨ok.aK,λs x hx=>?_,λs x hx=>?_,λs v a ha=>⟨(ok.aH s v a ha).1.aA g,(ok.aH s v a ha).2⟩,λs v n ha=>?_,ok.aI,λs v n t' a x h1 h2 h3 h4=>?_,ok.aM,λs v a h1 h2=>?_,λs v M hM=>⟨(ok.aF s v M hM).1.aA g,(ok.aF s v M hM).2⟩,λc hc=>?_,ok.aO,λs x hx j hj hcj hl=>?_⟩,g,none',new,old,rfl,rfl,rfl,rfl,rfl⟩
 ·rcases inv s x hx with⟨rfl,rfl⟩ | hx
  ·intro a ha
   rcases U4.1 ha with ha | ha
   ·obtain⟨i,hi,rfl⟩:=WD.1 ha
    exact ok.bA w.aA hi
   ·obtain rfl:a=e:=by simpa using ha
    exact hs
  ·exact ok.aG s x hx
 ·rcases inv s x hx with⟨rfl,rfl⟩ | hx
  ·refine⟨h0,List.prefix_append _ _,by simp,λi hi hl=>?_,?_,wf⟩
   ·have:i=L.length:=by simp at hi;have hl':L.length<=i:=hl;omega
    subst this
    simp only
    rw[VU (Uy _)]
    simpa using he
   ·exact (w.aA.aA g).aE (x:=⟨id,L,L++[e]⟩) (by rw[he];exact new) (by rw[UU (by simp)]) (Uy _)
  ·obtain⟨a1,a2,a3,a4,a5,a6⟩:=ok.aA s x hx
   exact⟨a1,a2,a3,a4,a5.aA g,a6.aA.aA g,a6.aD,a6.lt,a6.aC⟩
 ·obtain⟨x,h1,h2⟩:=ok.aE s v n ha
  exact⟨x,sub s x h1,h2⟩
 ·rcases inv s x h4 with⟨rfl,rfl⟩ | h4
  ·obtain⟨y,h5,-⟩:=ok.aE _ v n h1
   rw[none']at h5;cases h5
  ·exact (ok.aL s v n t' a x h1 h2 h3 h4).imp (λz=>z) λ⟨q,y,y1,y2,y3,y4⟩=>⟨q,y,y1,y2,sub _ _ y3,y4⟩
 ·obtain⟨x,hx⟩:=ok.aN s v a h1 h2;exact⟨x,sub _ _ hx⟩
 ·obtain⟨x,h1,h2⟩:=ok.aC c hc;exact⟨x,sub _ _ h1,h2⟩
 ·rcases inv s x hx with⟨rfl,rfl⟩ | hx
  ·have:j=L.length:=by simp at hj;have hl':L.length<=j:=hl;omega
   subst this
   simp only at hcj
   rw[VU (Uy _)]at hcj
   exact absurd (by simpa using hcj) hc
  ·exact ok.aD s x hx j hj hcj hl
theorem gq.ok.a_ (ok:G.ok){t id:Int}{l0 L:Es}{e:fT}(hl:G.aA t=some ⟨id,l0,L⟩)(he:e.aA=t)(hs:e.aF)
  (hc:e.aE->pY (iL G.c0 L) (ie e.aC).1/\(fQ L=0\/∃c'∈G.aD,fQ L<=c'.n/\c'.t<=t/\c'.l.take (fQ L)=L.take (fQ L))):
  ∃G',G'.ok/\jf id G G'/\G'.aA t=some ⟨id,l0,L++[e]⟩/\(∀s,s≠t->G'.aA s=G.aA s)/\G'.aC=G.aC/\G'.aG=G.aG/\G'.aE=G.aE/\G'.aD=G.aD/\G'.aH=G.aH:=by
 obtain⟨ld,hld⟩:∃ld:Int->Option mA,ld=λs=>if s=t then some ⟨id,l0,L++[e]⟩ else G.aA s:=⟨_,rfl⟩
 have new:ld t=some ⟨id,l0,L++[e]⟩:=by rw[hld];simp
 have old:∀s,s≠t->ld s=G.aA s:=λs hs=>by rw[hld];simp[hs]
 have inv:∀s x,ld s=some x->(s=t/\x=⟨id,l0,L++[e]⟩)\/(s≠t/\G.aA s=some x):=λs x hx=>by
  by_cases c:s=t
  ·rw[c,new]at hx;injection hx with hx;exact .inl ⟨c,hx.symm⟩
  ·rw[old s c]at hx;exact .inr ⟨c,hx⟩
 have g:jf id G ⟨G.c0,ld,G.aC,G.aG,G.aE,G.aD,G.aH⟩:=by
  refine⟨rfl,λs x hx=>?_,λs x h1 h2=>?_,λ_ _ _ h=>h,λ_ _ _=>rfl,λ_ _ _ h=>h,λ_ _ _=>rfl,λ_ _ _ h=>h,λ_ _ _ _ h=>h,λ_ h=>h,UL _⟩
  ·by_cases c:s=t
   ·subst c
    rw[hl]at hx
    injection hx with hx
    subst hx
    exact⟨_,new,List.prefix_append _ _,λz=>absurd rfl z⟩
   ·exact⟨x.l,(old s c).trans hx,Vw _,λ_=>rfl⟩
  ·rcases inv s x h1 with⟨z,-⟩ | ⟨_,z⟩
   ·rw[z,hl]at h2;cases h2
   ·rw[h2]at z;cases z
 have sub:∀s x,G.aA s=some x->∃y,ld s=some y/\y.id=x.id/\y.l0=x.l0/\x.l<+:y.l:=λs x hx=>by
  obtain⟨l',h1,h2,-⟩:=g.aA s x hx
  exact⟨_,h1,rfl,rfl,h2⟩
 obtain⟨b1,b2,b3,b4,b5,b6⟩:=ok.aA t _ hl
 refine⟨gq.mk G.c0 ld G.aC G.aG G.aE G.aD G.aH,⟨ok.aK,λs x hx=>?_,λs x hx=>?_,λs v a ha=>⟨(ok.aH s v a ha).1.aA g,(ok.aH s v a ha).2⟩,λs v n ha=>?_,ok.aI,λs v n t' a x h1 h2 h3 h4=>?_,ok.aM,λs v a h1 h2=>?_,λs v M hM=>⟨(ok.aF s v M hM).1.aA g,(ok.aF s v M hM).2⟩,λc hc'=>?_,ok.aO,λs x hx j hj hcj hlj=>?_⟩,g,new,old,rfl,rfl,rfl,rfl,rfl⟩
 ·rcases inv s x hx with⟨rfl,rfl⟩ | ⟨-,hx⟩
  ·intro a ha
   rcases U4.1 ha with ha | ha
   ·exact ok.aG _ _ hl a ha
   ·obtain rfl:a=e:=by simpa using ha
    exact hs
  ·exact ok.aG s x hx
 ·rcases inv s x hx with⟨rfl,rfl⟩ | ⟨-,hx⟩
  ·refine⟨b1,b2.trans (List.prefix_append _ _),by have:l0.length<L.length:=b3;simp;omega,λi hi hli=>?_,?_,b6.aA.aA g,b6.aD,b6.lt,b6.aC⟩
   ·by_cases c:i<L.length
    ·simp only
     rw[VM c]
     exact b4 i c hli
    ·have:i=L.length:=by simp at hi;omega
     subst this
     simp only
     rw[VU (Uy _)]
     simpa using he
   ·exact (b5.aA g).aE (x:=⟨id,l0,L++[e]⟩) (by rw[he];exact new) (by rw[UU (by simp)]) (Nat.le_of_lt b3)
  ·obtain⟨a1,a2,a3,a4,a5,a6⟩:=ok.aA s x hx
   exact⟨a1,a2,a3,a4,a5.aA g,a6.aA.aA g,a6.aD,a6.lt,a6.aC⟩
 ·obtain⟨x,h1,h2⟩:=ok.aE s v n ha
  obtain⟨y,y1,-,-,y2⟩:=sub s x h1
  exact⟨y,y1,by have:=y2.length_le;omega⟩
 ·obtain⟨x0,h5,h6⟩:=ok.aE s v n h1
  obtain⟨y,y1,-,-,y2⟩:=sub s x0 h5
  have h4:ld s=some x:=h4
  rw[y1]at h4
  injection h4 with h4
  subst h4
  rw[iU y2 h6]
  exact (ok.aL s v n t' a x0 h1 h2 h3 h5).imp (λz=>z) λ⟨q,z,z1,z2,z3,z4⟩=>let⟨z',w1,_,w2,_⟩:=sub q z z3;⟨q,z',z1,z2,w1,by rw[w2];exact z4⟩
 ·obtain⟨x,hx⟩:=ok.aN s v a h1 h2
  obtain⟨y,y1,-⟩:=sub s x hx
  exact⟨y,y1⟩
 ·obtain⟨x,h1,h2,h3,h4⟩:=ok.aC c hc'
  obtain⟨y,y1,-,y2,y3⟩:=sub _ x h1
  exact⟨y,y1,h2.trans y3,by rw[y2];exact h3,h4⟩
 ·rcases inv s x hx with⟨rfl,rfl⟩ | ⟨-,hx⟩
  ·simp only at hj hcj hlj ⊢
   by_cases c:j<L.length
   ·rw[VM c]at hcj
    rw[U0 (by omega),U0 (by omega)]
    obtain⟨c1,c2⟩:=ok.aD _ _ hl j c hcj hlj
    refine⟨c1,c2.imp (λz=>z) λ⟨c',d1,d2,d3,d4⟩=>⟨c',d1,d2,d3,?_⟩⟩
    rw[U0 (by have:=mX (L.take j);simp only[UD]at this;omega)]
    exact d4
   ·have:j=L.length:=by simp at hj;omega
    subst this
    rw[VU (Uy _)]at hcj
    simp only[WL,VV]at hcj
    obtain⟨c1,c2⟩:=hc hcj
    rw[U0 (Uy _),UU (Uy _),UU (by simp),wY,Uv hcj]
    refine⟨c1,c2.imp (λz=>z) λ⟨c',d1,d2,d3,d4⟩=>⟨c',d1,d2,d3,?_⟩⟩
    rw[U0 (mX _)]
    exact d4
  ·exact ok.aD s x hx j hj hcj hlj
theorem gq.ok.aU (ok:G.ok){t id:Int}{n:Nat}{x:mA}(hx:G.aA t=some x)(hn:n<=x.l.length)(hg:∀s w,G.aC s id=some w->s<=t):
  (gq.mk G.c0 G.aA G.aC G.aG (λs v m=>G.aE s v m\/(s=t/\v=id/\m<=n)) G.aD G.aH).ok/\jf id G (gq.mk G.c0 G.aA G.aC G.aG (λs v m=>G.aE s v m\/(s=t/\v=id/\m<=n)) G.aD G.aH):=by
 refine⟨⟨ok.aK,ok.aG,λs y hy=>(let⟨a1,a2,a3,a4,a5,a6⟩:=ok.aA s y hy;⟨a1,a2,a3,a4,a5,a6.aA,a6.aD,a6.lt,a6.aC⟩),ok.aH,λs v m h=>?_,λs v m m' h hm=>?_,λs v m t' a y h1 h2 h3 h4=>?_,ok.aM,ok.aN,ok.aF,λc hc=>?_,ok.aO,ok.aD⟩,⟨rfl,λs y hy=>⟨y.l,hy,Vw _,λ_=>rfl⟩,λs y h1 h2=>(by have h1:G.aA s=some y:=h1;rw[h2]at h1;cases h1),λ_ _ _ h=>h,λ_ _ _=>rfl,λ_ _ _ h=>h,λ_ _ _=>rfl,λ_ _ _ h=>.inl h,λs v m hv h=>h.resolve_right (λz=>hv z.2.1),λ_ h=>h,UL _⟩⟩
 ·rcases h with h | ⟨rfl,rfl,h⟩
  ·exact ok.aE s v m h
  ·exact⟨x,hx,by omega⟩
 ·exact h.imp (λz=>ok.aI s v m m' z hm) λ⟨a,b,c⟩=>⟨a,b,by omega⟩
 ·rcases h1 with h1 | ⟨rfl,rfl,h1⟩
  ·exact ok.aL s v m t' a y h1 h2 h3 h4
  ·have:=hg t' a h2;omega
 ·obtain⟨y,h1,h2,h3,h4,Q,q1,q2⟩:=ok.aC c hc
  exact⟨y,h1,h2,h3,h4,Q,q1,λv hv=>.inl (q2 v hv)⟩
theorem gq.ok.aW (ok:G.ok){L:Es}(hL:G.aF L){t:Int}(ht:∀e∈L,e.aA<=t){p:Nat}(hp:p<L.length) (hc:L[p].aE) (hlt:p+1<fQ L):
  ∃c'∈G.aD,p+1<=c'.n/\c'.t<=t/\c'.l.take (p+1)=L.take (p+1):=by
 have hl:=mX L
 obtain⟨g1,g2⟩:=(qq L).2 (by omega)
 obtain⟨x,s1,s2,s3⟩:=hL _ g1
 have hr:=oX s2 (by omega)
 have e:=mw s2 (i:=fQ L-1) (by omega)
 rw[Ur g1,Ur (by omega)]at e
 injection e with e
 have cf:=(ok.aD _ x s1 (fQ L-1) (by omega) (e▸g2) s3).2
 have e2:x.l.take (fQ L-1)=L.take (fQ L-1):=(lp s2 (by omega)).symm
 have h1:p+1<=fQ (L.take (fQ L-1)):=by
  refine BE (l:=L.take (fQ L-1)) (k:=p) (by simp only[UD];omega) ?_
  rw[VK];exact hc
 rw[e2]at cf
 obtain⟨d,d1,d2,d3,d4⟩:=cf.resolve_left (by omega)
 have h2:=mX (L.take (fQ L-1))
 simp only[UD]at h2
 have h3:=ht _ (UT g1)
 refine⟨d,d1,by omega,by omega,lp (d4.trans (lp s2 (by omega)).symm) h1⟩
theorem gq.ok.aV (ok:G.ok){t id:Int}{l0 L:Es}(hl:G.aA t=some ⟨id,l0,L⟩)(ht:∀e∈L,e.aA<=t){n:Nat}(h0:l0.length<n)(hn:n<=L.length){Q:List Int}(hq:(iL G.c0 L).aF Q=true)(ha:∀v∈Q,G.aE t v n):
  (gq.mk G.c0 G.aA G.aC G.aG G.aE (⟨t,n,L⟩ :: G.aD) G.aH).ok/\jf id G (gq.mk G.c0 G.aA G.aC G.aG G.aE (⟨t,n,L⟩ :: G.aD) G.aH):=by
 refine⟨⟨ok.aK,ok.aG,λs y hy=>(let⟨a1,a2,a3,a4,a5,a6⟩:=ok.aA s y hy;⟨a1,a2,a3,a4,a5,a6.aA,a6.aD,a6.lt,a6.aC⟩),ok.aH,ok.aE,ok.aI,ok.aL,ok.aM,ok.aN,ok.aF,λc hc=>?_,λa c b e p hp u hlt=>?_,λs x hx j hj I E=>?_⟩,⟨rfl,λs y hy=>⟨y.l,hy,Vw _,λ_=>rfl⟩,λs y h1 h2=>(by have h1:G.aA s=some y:=h1;rw[h2]at h1;cases h1),λ_ _ _ h=>h,λ_ _ _=>rfl,λ_ _ _ h=>h,λ_ _ _=>rfl,λ_ _ _ h=>h,λ_ _ _ _ h=>h,λc h=>Ws _ h,UL _⟩⟩
 ·rcases Vg.1 hc with rfl | hc
  ·exact⟨_,hl,Vw _,h0,hn,Q,hq,ha⟩
  ·exact ok.aC c hc
 ·cases a with
  | nil=>
   simp only[VH,VI]at e
   obtain⟨rfl,rfl⟩:=e
   exact ok.aW (ok.aA _ _ hl).2.2.2.2.1 ht hp u hlt
  | cons a0 a=>
   simp only[Wo,VI]at e
   exact ok.aO a c b e.2 p hp u hlt
 ·obtain⟨c1,c2⟩:=ok.aD s x hx j hj I E
  exact⟨c1,c2.imp (λz=>z) λ⟨c',d1,d2⟩=>⟨c',Ws _ d1,d2⟩⟩
end
theorem gq.ok.aP {G:gq}(ok:G.ok){t:Int}{x:mA}(hx:G.aA t=some x):mJ x.l/\∀e∈x.l,e.aA<=t:=by
 obtain⟨-,a2,a3,a4,-,a6⟩:=ok.aA t x hx
 have u:∀e∈x.l,e.aA<=t:=by
  intro e he
  obtain⟨i,hi,rfl⟩:=WD.1 he
  by_cases c:x.l0.length<=i
  ·exact Int.le_of_eq (a4 i hi c)
  ·have e1:=mw (iU a2 (n:=i+1) (by omega)) (i:=i) (by omega)
   rw[Ur hi,Ur (by omega)]at e1
   injection e1 with e1
   rw[e1]
   exact Int.le_of_lt (a6.lt _ (UT _))
 refine⟨?_,u⟩
 unfold mJ
 rw[Wl]
 intro i j hi hj E
 by_cases c:x.l0.length<=j
 ·rw[a4 j hj c];exact u _ (UT _)
 ·have e:∀k,(hk:k<x.l0.length)->∃h:k<x.l.length,x.l[k]=x.l0[k]:=λk hk=>by
   have e1:=mw (iU a2 (n:=k+1) (by omega)) (i:=k) (by omega)
   rw[Ur (by omega),Ur hk]at e1
   injection e1 with e1
   exact⟨by omega,e1⟩
  obtain⟨_,e1⟩:=e i (by omega)
  obtain⟨_,e2⟩:=e j (by omega)
  rw[e1,e2]
  exact Hn a6.aD (Nat.le_of_lt E) (by omega)
def gq.aJ (G:gq)(B:Nat):Prop:=(∀t w,G.aA t=some w->w.l.length<=B)/\G.aH<=B
theorem gq.aJ.aA {G:gq}{B B':Nat}(h:G.aJ B)(hb:B<=B'):G.aJ B':=⟨λt w hw=>UH (h.1 t w hw) hb,by have:=h.2;omega⟩
theorem gq.aJ.aC {G:gq}{B:Nat}(h:G.aJ B){L:Es}(hL:G.aF L):L.length<=B:=by
 by_cases c:L.length=0
 ·omega
 ·obtain⟨y,h1,h2,-⟩:=hL (L.length-1) (by omega);have:=oX h2 (by omega);have:=h.1 _ y h1;omega
section
variable {G G':gq} {D:Es} {r r':eZ}
theorem gB.aX (g:jf r.id G G')(h:gB G D r){e:fT}{l0:Es} (hl:G'.aA r.aA.aC=some ⟨r.id,l0,f_ D r++[e]⟩) (I:G'.ok) (old:∀s,s≠r.aA.aC->G'.aA s=G.aA s) (hg:G'.aC=G.aC) (M:G'.aG=G.aG) (E:G'.aE=G.aE) (he:e.aA=r.aA.aC)
  (e1:r'.id=r.id) (e2:r'.aA=(r.bA e).aA) (e3:r'.aH=r.aH) (e4:r'.aE=r.aE) (e5:r'.aG=2) (e7:∀f∈r'.aC,f∈r.aC\/(f.aC=r.aA.aA.aC+1/\f.aE=0)):gB G' D r':=by
 have ef:f_ D r'=f_ D r++[e]:=by rw[<-Mj];show gF D _=gF D _;rw[e2]
 have hh:r'.aA.aC=r.aA.aC/\r'.aA.aF=r.aA.aF/\r'.aA.aA.aA=r.aA.aA.aA/\r'.aA.aA.aD=r.aA.aA.aD/\r'.aA.aD=r.aA.aD/\r'.aA.aG=r.aA.aG/\r'.aA.aA.aC=r.aA.aA.aC+1:=by
  rw[e2];exact⟨rfl,rfl,rfl,rfl,rfl,rfl,Pw r e⟩
 obtain⟨ht,hv,hb,O,hc,hs,u⟩:=hh
 have hlen:=h.aQ
 have at0:=h.aD
 have U:=h.on.aA
 have tk:∀n:Int,n<=r.aA.aA.aC->(f_ D r').take n.toNat=(f_ D r).take n.toNat:=λn hn=>by
  rw[ef,U0 (by omega)]
 have fe:G'.aF (f_ D r'):=by
  rw[ef]
  have:=(I.aA _ _ hl).2.2.2.2.1
  exact this
 refine⟨⟨by rw[e1];exact h.id.1,by rw[ht];exact Wa h.id.2 g.aE⟩,⟨by rw[hb];exact U,by rw[hb,O];exact h.on.aE⟩,fe,?_,?_,by rw[hc,hb,g.c0];exact h.aK,by rw[hs];exact h.aG,by rw[hb,e3,e4,u];omega,⟨by rw[e3,tk _ (by omega)];exact h.aF.1,by rw[e3];exact h.aF.2⟩,?_,by rw[ht];exact h.aE,λt w z=>?_,λz=>?_,λt L z=>?_,λt x z hx=>?_,λt n z=>?_,.inr (.inr e5),(λz=>by rw[e5]at z;cases z),λ_=>⟨l0,by rw[ht,e1,ef];exact hl⟩,λf hf=>?_⟩
 ·rw[ef];exact Q3 h.aI (λa ha=>by rw[he];exact h.le a ha)
 ·rw[ef,ht]
  intro a ha
  rcases U4.1 ha with ha | ha
  ·exact h.le a ha
  ·obtain rfl:a=e:=by simpa using ha
   omega
 ·rw[ht,e4];exact (h.aA.aC g).of (tk _ (by omega))
 ·rw[e1,hg]at z;rw[ht,hv];exact h.aH t w z
 ·rw[hv]at z;rw[e1,ht,hg,hv];exact h.aP z
 ·rw[e1,M]at z;rw[ht];exact h.aL t L z
 ·rw[e1]at hx;rw[ht]
  by_cases c:t=r.aA.aC
  ·omega
  ·rw[old t c]at z;exact h.aM t x z hx
 ·rw[e1,E]at z
  rw[ht,ef]
  obtain⟨a1,a2⟩:=h.aJ t n z
  refine⟨a1,λx hx=>?_⟩
  by_cases c:t=r.aA.aC
  ·rw[c,hl]at hx
   injection hx with hx
   subst hx
   exact .inl (V7 _ _)
  ·rw[old t c]at hx
   refine (a2 x hx).imp (λz=>z.trans (List.prefix_append _ _)) λ⟨s,y,y1,y2,y3,y4⟩=>?_
   obtain⟨l',w1,-,-⟩:=g.aA s y y3
   exact⟨s,_,y1,y2,w1,y4⟩
 ·rw[u,ht,E]
  rcases e7 f hf with z | ⟨z1,z2⟩
  ·obtain⟨a1,a2,a3⟩:=h.aO f z
   exact⟨⟨a1.1,by omega⟩,⟨a2.1,by omega⟩,a3⟩
  ·have:0<=r.aA.aA.aC:=by omega
   exact⟨⟨by omega,by omega⟩,⟨by omega,by omega⟩,.inl z2⟩
theorem gB.bE (ok:G.ok)(h:gB G D r)(h1:r.aG=1)(hw:r.aN.aF r.aI=true){e:fT}(he:e.aA=r.aA.aC)(hs:e.aF)(hc:¬e.aE):
  ∃G',G'.ok/\jf r.id G G'/\(∀B,G.aJ B->G'.aJ (B+1))/\∀r':eZ,r'.id=r.id->r'.aA=(r.bA e).aA->r'.aH=r.aH->r'.aE=r.aE->r'.aG=2->(∀f∈r'.aC,f∈r.aC\/(f.aC=r.aA.aA.aC+1/\f.aE=0))->gB G' D r':=by
 obtain⟨⟨r0,-⟩,r1,r2,r3⟩:=h.aS h1
 have cd:=ok.aF _ _ _ r1
 have w:G.aK true r.aA.aC r.id (f_ D r):=by
  refine⟨h.aC,h.aI,cd.2.2,r.aI,by rw[<-h.aT];exact hw,λv hv=>?_⟩
  obtain⟨w,w1,w2⟩:=r2 v hv
  obtain⟨L,l1,l2⟩:=ok.aM _ _ _ w1
  rw[w2,r1]at l1
  injection l1 with l1
  subst l1
  exact⟨w,w1,w2,λ_=>rfl,l2⟩
 obtain⟨G',u,g,-,n1,n2,n3,n4,n5,-,nt⟩:=ok.bw w he hc hs r0 r3
 refine⟨G',u,g,λB sB=>⟨λt y hy=>?_,by rw[nt];have:=sB.2;omega⟩,λr' e1 e2 e3 e4 e5 e7=>h.aX g n1 u n2 n3 n4 n5 he e1 e2 e3 e4 e5 e7⟩
 by_cases c:t=r.aA.aC
 ·rw[c,n1]at hy
  injection hy with hy
  subst hy
  have:=sB.aC h.aC
  simp only[Ut,Vn]
  omega
 ·rw[n2 t c]at hy
  have:=sB.1 t y hy
  omega
theorem gB.bD (ok:G.ok)(h:gB G D r)(h2:r.aG=2){e:fT}(he:e.aA=r.aA.aC)(hs:e.aF)(hc:e.aE->pY r.aN (ie e.aC).1/\r.aA.of.2<=r.aE):
  ∃G',G'.ok/\jf r.id G G'/\(∀B,G.aJ B->G'.aJ (B+1))/\∀r':eZ,r'.id=r.id->r'.aA=(r.bA e).aA->r'.aH=r.aH->r'.aE=r.aE->r'.aG=2->(∀f∈r'.aC,f∈r.aC\/(f.aC=r.aA.aA.aC+1/\f.aE=0))->gB G' D r':=by
 obtain⟨l0,hl⟩:=h.aN h2;obtain⟨o1,o2⟩:=h.aY;have at0:=h.aD;obtain⟨G',u,g,n1,n2,n3,n4,n5,-,nt⟩:=ok.a_ hl he hs (λz=>by
  obtain⟨z1,z2⟩:=hc z;rw[h.aT]at z1;refine⟨z1,?_⟩;have hle:(fQ (f_ D r):Int)<=r.aE:=by have:=h.on.aA;rcases o2 with⟨o2,o3⟩ | o2<;>omega
  rcases h.aA with z | ⟨hl',c,c1,c2,c3,c4⟩;·exact .inl (by omega)
  ·exact .inr ⟨c,c1,by omega,c3,(lp c4 (by omega)).symm⟩)
 refine⟨G',u,g,λB sB=>⟨λt y hy=>?_,by rw[nt];have:=sB.2;omega⟩,λr' e1 e2 e3 e4 e5 e7=>h.aX g n1 u n2 n3 n4 n5 he e1 e2 e3 e4 e5 e7⟩;by_cases c:t=r.aA.aC;·rw[c,n1]at hy;injection hy with hy;subst hy;have:=sB.aC h.aC;simp only[Ut,Vn];omega
 ·rw[n2 t c]at hy;have:=sB.1 t y hy;omega
theorem gB.aV (ok:G.ok)(h:gB G D r){n:Nat}{x:mA}(hx:G.aA r.aA.aC=some x)(hn:n<=x.l.length)(hp:x.l.take n<+:f_ D r):
  ∃G',G'.ok/\jf r.id G G'/\(G'.aA=G.aA/\G'.aH=G.aH)/\G'.aD=G.aD/\G'.aE r.aA.aC r.id n/\gB G' D r:=by
 obtain⟨u,g⟩:=ok.aU hx hn (λs w e=>(h.aH s w e).1);refine⟨_,u,g,⟨rfl,rfl⟩,rfl,.inr ⟨rfl,rfl,Uy _⟩,h.id,h.on,h.aC,h.aI,h.le,h.aK,h.aG,h.aD,h.aF,h.aA,h.aE,h.aH,h.aP,h.aL,h.aM,λt m z=>?_,h.aR,h.aS,h.aN,λf hf=>?_⟩
 ·rcases z with z | ⟨rfl,_,z⟩;·exact h.aJ t m z
  ·refine⟨UL _,λy hy=>.inl ?_⟩;have hy:G.aA r.aA.aC=some y:=hy;rw[hx]at hy;injection hy with hy;subst hy;exact (List.take_prefix_take_left z).trans hp
 ·obtain⟨a1,a2,a3⟩:=h.aO f hf;exact⟨a1,a2,a3.imp (λz=>z) .inl⟩
theorem gB.aZ (ok:G.ok)(h:gB G D r)(h2:r.aG=2){n:Int}(hc:r.aE<n)(hh:r.aA.aA.aF n=true)(ht:r.aA.aA.aJ n=r.aA.aC){Q:List Int}(hq:r.aN.aF Q=true)(ha:∀v∈Q,v=r.id\/∃f∈r.aC,f.aD=v/\n<=f.aE):
  ∃G',G'.ok/\jf r.id G G'/\(∀B,G.aJ B->G'.aJ B)/\gB G' D {r with aE:=n}:=by
 obtain⟨l0,hl⟩:=h.aN h2
 have E:=h.aQ
 have U:=h.aD
 have hb0:=h.on.aA
 have hn:n<=r.aA.aA.aC:=by unfold fu.aF at hh;simp at hh;exact hh.2
 obtain⟨G1,u,g1,⟨e1,et⟩,e2,k1,h1⟩:=h.aV ok (n:=(f_ D r).length) hl (Uy _) (by rw[U7];exact Vw _)
 rw[h1.aT]at hq
 have O:G1.aA r.aA.aC=some ⟨r.id,l0,f_ D r⟩:=by rw[e1];exact hl
 have h0:l0.length<n.toNat:=by
  apply UC
  intro z
  have I:=(ok.aA _ _ hl).2.1
  have lt:=(ok.aA _ _ hl).2.2.2.2.2.lt
  simp only at I lt
  have hlen':((gF D r.aA.aA).length:Int)=r.aA.aA.aC:=E
  rw[h.on.aD hh,rI (by omega) (by omega)]at ht
  have e:=mw (iU I (n:=n.toNat) (by omega)) (i:=n.toNat-1) (by omega)
  rw[Ur (by omega),Ur (by omega)]at e
  injection e with e
  have:=lt _ (UT (show n.toNat-1<l0.length by omega))
  rw[<-e]at this
  exact absurd ht (Int.ne_of_lt this)
 obtain⟨M,g2⟩:=u.aV O h.le h0 (by omega) hq (λv hv=>by
  rcases ha v hv with rfl | ⟨f,f1,rfl,f2⟩
  ·exact u.aI _ _ _ _ k1 (by omega)
  ·obtain⟨-,a2,a3⟩:=h1.aO f f1
   rcases a3 with a3 | a3
   ·omega
   ·exact u.aI _ _ _ _ a3 (by omega))
 refine⟨_,M,g1.aM g2,λB sB=>⟨λt y hy=>sB.1 t y (by rw[<-e1];exact hy),by show G1.aH<=_;rw[et];exact sB.2⟩,h1.id,h1.on,h1.aC,h1.aI,h1.le,h1.aK,h1.aG,⟨U.1,by show r.aH<=n;omega,hn⟩,h1.aF,?_,h1.aE,h1.aH,h1.aP,h1.aL,h1.aM,h1.aJ,h1.aR,h1.aS,h1.aN,h1.aO⟩
 exact .inr ⟨by show n<=_;have:f_ D {r with aE:=n}=f_ D r:=rfl;rw[this];omega,_,List.mem_cons_self,by show n<=(n.toNat:Int);omega,UL _,rfl⟩
theorem gB.aU (h:gB G D r)(e1:r'.id=r.id)(e2:r'.aA.aC=r.aA.aC)(e3:r'.aA.aF=r.aA.aF)(a4:r'.aA.aA.on D)(M:G.aF (f_ D r'))(E:Glb.mJ (f_ D r'))(a5:∀e∈f_ D r',e.aA<=r.aA.aC)(U:r'.aA.aD=iL G.c0 (D.take r'.aA.aA.aA.toNat))(I:gI r'.aA.aG/\r'.aA.aG.length<=1)
  (Z:r'.aA.aA.aA<=r'.aH/\r'.aH<=r'.aE/\r'.aE<=r'.aA.aA.aC) (O:(f_ D r').take r'.aH.toNat=D.take r'.aH.toNat/\r'.aH<=D.length) (W:G.aI r.aA.aC r'.aE (f_ D r'))
  (a3:∀t n,G.aE t r.id n->∀x,G.aA t=some x->t<=r.aA.aC->x.l.take n<+:f_ D r->x.l.take n<+:f_ D r'\/∃s y,t<s/\s<=r.aA.aC/\G.aA s=some y/\¬x.l.take n<+:y.l0)
  (u:(r'.aG=0/\r'.aC=[])\/(f_ D r'=f_ D r/\r'.aA.aA.aC=r.aA.aA.aC/\r'.aG=r.aG/\r'.aI=r.aI/\r'.aC=r.aC)):gB G D r':=by
 refine⟨⟨by rw[e1];exact h.id.1,by rw[e2];exact h.id.2⟩,a4,M,E,by rw[e2];exact a5,U,I,Z,O,by rw[e2];exact W,by rw[e2];exact h.aE,λt w z=>by rw[e2,e3];rw[e1]at z;exact h.aH t w z,λz=>by rw[e1,e2,e3];rw[e3]at z;exact h.aP z,λt L z=>by rw[e2];rw[e1]at z;exact h.aL t L z,λt x z hx=>by rw[e2];rw[e1]at hx;exact h.aM t x z hx,λt n z=>?_,?_,λz=>?_,λz=>?_,λf hf=>?_⟩;·rw[e1]at z;obtain⟨a1,a2⟩:=h.aJ t n z;rw[e2];exact⟨a1,λx hx=>(a2 x hx).elim (λp=>a3 t n z x hx a1 p) .inr⟩
 ·rcases u with⟨c,-⟩ | ⟨-,-,c,-⟩;·exact .inl c
  ·rw[c];exact h.aR
 ·rcases u with⟨c,-⟩ | ⟨c1,-,c2,c3,-⟩;·rw[c]at z;cases z
  ·rw[e1,e2,e3,c1,c3];exact h.aS (c2▸z)
 ·rcases u with⟨c,-⟩ | ⟨c1,-,c2,c3,-⟩;·rw[c]at z;cases z
  ·rw[e1,e2,c1];exact h.aN (c2▸z)
 ·rcases u with⟨-,c⟩ | ⟨c1,c4,c2,c3,c5⟩;·rw[c]at hf;cases hf
  ·rw[c4,e2];rw[c5]at hf;exact h.aO f hf
def gQ (D:Es)(r:eZ):Es:=if (D.length:Int)<r.aE then (f_ D r).take r.aE.toNat else D
def gq.aL (G:gq)(D:Es):Prop:=∃t,G.aI t D.length D
theorem gB.bx (ok:G.ok)(hD:G.aL D)(h:gB G D r):D<+:gQ D r/\G.aL (gQ D r)/\gB G (Glb.gQ D r) r/\gB G (Glb.gQ D r) {r with aH:=r.aE}/\(Glb.gQ D r).take r.aE.toNat=(f_ D r).take r.aE.toNat/\r.aE<=(Glb.gQ D r).length:=by
 obtain⟨t,ht⟩:=hD;have hlen:=h.aQ;have at0:=h.aD;have hb0:=h.on.aA;have pd:D<+:Glb.gQ D r:=by
  unfold Glb.gQ;by_cases c:(D.length:Int)<r.aE;·rw[Uv c];have:=ok.aQ ht h.aA (by omega);rw[Vt,U7]at this;refine CO ?_;rw[Va,Vk (by omega)];exact this.symm
  ·rw[Uw c];exact Vw _
 have tk:(Glb.gQ D r).take r.aE.toNat=(f_ D r).take r.aE.toNat/\r.aE<=(Glb.gQ D r).length:=by
  unfold Glb.gQ;by_cases c:(D.length:Int)<r.aE;·rw[Uv c,Va,Wr];exact⟨rfl,by simp only[UD];omega⟩
  ·rw[Uw c];exact⟨(ok.aQ h.aA ht (by omega)).symm,by omega⟩
 have hG:=h.bB pd;have ef:f_ (Glb.gQ D r) r=f_ D r:=(h.on.up pd).2;refine⟨pd,?_,hG,?_,tk⟩
 ·unfold Glb.gQ;by_cases c:(D.length:Int)<r.aE
  ·rw[Uv c];refine⟨_,(h.aA.aA (UL _) ?_).of ?_⟩;·simp only[UD];omega
   ·simp only[UD,Vt,Va];congr 1;omega
  ·rw[Uw c];exact⟨t,ht⟩
 ·refine⟨hG.id,hG.on,hG.aC,hG.aI,hG.le,hG.aK,hG.aG,⟨by show r.aA.aA.aA<=r.aE;omega,UL _,at0.2.2⟩,⟨?_,tk.2⟩,hG.aA,hG.aE,hG.aH,hG.aP,hG.aL,hG.aM,hG.aJ,hG.aR,hG.aS,hG.aN,hG.aO⟩;show (f_ (Glb.gQ D r) r).take r.aE.toNat=_;rw[ef,tk.1]
end
theorem gq.aF.aF {G:gq}{L L':Es}(h:G.aF L)(h':G.aF L'){i:Nat}(hi:i<L.length)(u:i<L'.length) (e:L[i].aA=L'[i].aA):L.take (i+1)=L'.take (i+1):=by obtain⟨y,a1,a2,-⟩:=h i hi;obtain⟨z,b1,b2,-⟩:=h' i u;rw[e,b1]at a1;injection a1 with a1;rw[a2,b2,a1]
theorem gq.aF.aD {G:gq}{L L':Es}(h:G.aF L)(h':G.aF L'){n:Nat}(hn:n<=L.length)(u:n<=L'.length)(e:iD (L.take n)=iD (L'.take n)):L.take n=L'.take n:=by
 by_cases c:n=0
 ·rw[c];simp
 ·rw[rI (by omega) hn,rI (by omega) u]at e;have:=h.aF h' (i:=n-1) (by omega) (by omega) e;rw[show n-1+1=n by omega]at this;exact this
theorem Jk (l:fu):∀(e:Es)(i:Int)(h:l.aG i e<e.length),¬(l.aF (i+(l.aG i e:Nat))=true/\l.aJ (i+(l.aG i e:Nat))=e[l.aG i e].aA):=by
 intro e;induction e with
 | nil=>intro i h;simp at h
 | cons x r ih=>
  intro i h;by_cases c:(l.aF i && decide (l.aJ i=x.aA))=true
  ·have e1:l.aG i (x :: r)=l.aG (i+1) r+1:=by simp only[fu.aG];rw[Uv c]
   simp only[e1]at h ⊢;have:=ih (i+1) (by simpa using h);simp only[List.getElem_cons_succ];rw[show i+((l.aG (i+1) r+1:Nat):Int)=i+1+(l.aG (i+1) r:Nat) by omega];exact this
  ·have e1:l.aG i (x :: r)=0:=by simp only[fu.aG];rw[Uw c]
   simp only[e1]at h ⊢;simp only[VV,Wz,Int.add_zero];intro z;exact c (by simp[z.1,z.2])
theorem List.aA {l:Es}{n k:Nat}(h:n<=l.length):l.take n++(l.drop n).take k=l.take (n+k):=by rw[List.take_add]
section
variable {G:gq} {D:Es} {r:eZ}
theorem Jj (ok:G.ok)(h:gB G D r){x:mA}(hx:G.aA r.aA.aC=some x){p:Int}{es:Es}(hp:r.aA.aA.aF p=true)(ht:r.aA.aA.aJ p=iD (x.l.take p.toNat))(hle:p+es.length<=x.l.length)(U:es=(x.l.drop p.toNat).take es.length):
  (f_ D r).take (p+r.aA.aA.aG (p+1) es).toNat=x.l.take (p+r.aA.aA.aG (p+1) es).toNat/\(p+r.aA.aA.aG (p+1) es).toNat<=(f_ D r).length /\
   (r.aA.aA.aG (p+1) es<es.length->∀(h1:(p+r.aA.aA.aG (p+1) es).toNat<(f_ D r).length) (h2:(p+r.aA.aA.aG (p+1) es).toNat<x.l.length),(f_ D r)[(p+r.aA.aA.aG (p+1) es).toNat].aA≠x.l[(p+r.aA.aA.aG (p+1) es).toNat].aA):=by
 have hlen:=h.aQ
 have hb0:=h.on.aA
 obtain⟨q1,q2⟩:=lL.1 hp
 have fx:=(ok.aA _ _ hx).2.2.2.2.1
 have W:=wB r.aA.aA es (p+1)
 have O:=wy (e:=es) hp
 rw[h.on.aD hp]at ht
 have get:∀j,j<es.length->∃(h1:j<es.length)(h2:p.toNat+j<x.l.length),es[j]=x.l[p.toNat+j]:=λj hj=>by
  refine⟨hj,by omega,?_⟩
  have:es[j]?=((x.l.drop p.toNat).take es.length)[j]?:=by rw[<-U]
  rw[Ur hj,Vh hj,UR,Ur (by omega)]at this
  injection this
 have E:∀j:Nat,p.toNat+j<(f_ D r).length->r.aA.aA.aF (p+1+j)=true/\∀(hh:p.toNat+j<(f_ D r).length),r.aA.aA.aJ (p+1+j)=(f_ D r)[p.toNat+j].aA:=λj hj=>by
  have e:r.aA.aA.aF (p+1+j)=true:=lL.2 ⟨by omega,by omega⟩
  refine⟨e,λhh=>?_⟩
  rw[h.on.aD e]
  have:=rI (l:=gF D r.aA.aA) (n:=(p+1+j).toNat) (by omega) (by have:(gF D r.aA.aA).length=(f_ D r).length:=rfl;omega)
  rw[this]
  congr 1
  have:(p+1+j).toNat-1=p.toNat+j:=by omega
  simp only[this]
 refine⟨?_,by omega,λhlt h1 h2 I=>?_⟩
 ·refine h.aC.aD fx (by omega) (by omega) ?_
  by_cases c:r.aA.aA.aG (p+1) es=0
  ·rw[c];simpa using ht
  ·obtain⟨a,ha⟩:∃a,r.aA.aA.aG (p+1) es=a+1:=⟨_,(Nat.succ_pred c).symm⟩
   rw[ha]at W O ⊢
   obtain⟨w1,w2⟩:=D8 r.aA.aA es (p+1) a (by omega) (by omega)
   obtain⟨v1,v2,v3⟩:=get a (by omega)
   obtain⟨-,u⟩:=E a (by omega)
   have u:=u (by omega)
   rw[w2,v3]at u
   rw[show (p+((a+1:Nat):Int)).toNat=p.toNat+a+1 by omega,rI (by omega) (by omega),rI (by omega) (by omega)]
   simp only[Nat.add_sub_cancel]
   exact u.symm
 ·have e:(p+(r.aA.aA.aG (p+1) es:Int)).toNat=p.toNat+r.aA.aA.aG (p+1) es:=by omega
  simp only[e]at h1 h2 I
  obtain⟨v1,v2,v3⟩:=get _ hlt
  obtain⟨u1,u⟩:=E _ h1
  have u:=u h1
  have M:¬(r.aA.aA.aF (p+1+(r.aA.aA.aG (p+1) es:Nat))=true/\r.aA.aA.aJ (p+1+(r.aA.aA.aG (p+1) es:Nat))=es[r.aA.aA.aG (p+1) es].aA):=by
   intro z
   exact Jk r.aA.aA es (p+1) hlt z
  refine M ⟨u1,?_⟩
  rw[u,v3,I]
theorem gB.bC (ok:G.ok)(h:gB G D r){x:mA}(hx:G.aA r.aA.aC=some x) (h0:r.aG=0/\r.aC=[]) {p:Int} {es:Es} (hp:r.aA.aA.aF p=true) (ht:r.aA.aA.aJ p=iD (x.l.take p.toNat)) (M:p+es.length<=x.l.length) (E:es=(x.l.drop p.toNat).take es.length):
  (0<r.aA.aA.aH p es->r.aE<r.aA.aA.aH p es)/\gB G D {r with aA:={r.aA with aA:=r.aA.aA.aE p es}}/\(gF D (r.aA.aA.aE p es)).take (p+es.length).toNat=x.l.take (p+es.length).toNat/\p+es.length<=(r.aA.aA.aE p es).aC:=by
 obtain⟨a1,a2,a3⟩:=Jj ok h hx hp ht M E
 have hlen:=h.aQ
 have I:=h.aD
 have O:=h.on.aA
 have hag:=wB r.aA.aA es (p+1)
 obtain⟨q1,q2⟩:=lL.1 hp
 by_cases c:r.aA.aA.aG (p+1) es<es.length
 ·obtain⟨e1,e2⟩:=uZ hp c
  have e3:=BZ hp c
  obtain⟨n,hn⟩:∃n,n=(p+(r.aA.aA.aG (p+1) es:Int)).toNat:=⟨_,rfl⟩
  rw[<-hn]at a1 a2 a3
  have ef:gF D (r.aA.aA.aE p es)=x.l.take (p+es.length).toNat:=by
   have hf:gF D (r.aA.aA.aE p es)=(f_ D r).take n++es.drop (r.aA.aA.aG (p+1) es):=by
    rw[e1]
    show _=(gF D r.aA.aA).take n++_
    unfold gF
    simp only
    rw[List.take_append,UU (l:=D.take _) (by rw[h.on.aC];omega),h.on.aC,UW]
    congr 3
    omega
   rw[hf,a1]
   have e4:es.drop (r.aA.aA.aG (p+1) es)=(x.l.drop n).take (es.length-r.aA.aA.aG (p+1) es):=by
    have U:∀a:Nat,es.drop a=((x.l.drop p.toNat).take es.length).drop a:=λa=>by rw[<-E]
    rw[U,List.drop_take,List.drop_drop]
    congr 2
    omega
   rw[e4,List.aA (by omega:n<=x.l.length)]
   congr 1
   omega
  have hc:r.aE<=n:=by
   apply UC
   intro z
   obtain⟨b1,b2⟩:=ok.aJ h.aA hx
   have e5:=mw b1 (i:=n) (by omega)
   rw[Ur (by omega),Ur (by omega)]at e5
   injection e5 with e5
   exact a3 c (by omega) (by omega) (by rw[e5])
  have ll:(f_ D {r with aA:={r.aA with aA:=r.aA.aA.aE p es}})=gF D (r.aA.aA.aE p es):=rfl
  have tk:∀k:Nat,k<=n->(gF D (r.aA.aA.aE p es)).take k=(f_ D r).take k:=λk hk=>by
   rw[ef,Va,Vk (by omega)]
   exact (lp a1 hk).symm
  refine⟨λ_=>by rw[e2];omega,h.aU (r':={r with aA:={r.aA with aA:=r.aA.aA.aE p es}}) rfl rfl rfl ⟨?_,?_⟩ ?_ ?_ ?_ ?_ h.aG ⟨?_,I.2.1,?_⟩ ⟨?_,h.aF.2⟩ ?_ (λt k hk y hy htl u=>?_) (.inl h0),?_,by rw[e3];omega⟩
  ·show 0<=(r.aA.aA.aE p es).aA/\(r.aA.aA.aE p es).aA<=D.length;rw[(n7 _ _ _).1];exact O
  ·show (r.aA.aA.aE p es).aD=iD (D.take (r.aA.aA.aE p es).aA.toNat);rw[(n7 _ _ _).1,(n7 _ _ _).2];exact h.on.aE
  ·rw[ll,ef];exact (ok.aA _ _ hx).2.2.2.2.1.aC _
  ·rw[ll,ef]
   have rx:=ok.aP hx
   exact rx.1.sublist (List.take_sublist _ _)
  ·rw[ll,ef];intro e he;exact (ok.aP hx).2 e (U9 he)
  ·show r.aA.aD=iL G.c0 (D.take (r.aA.aA.aE p es).aA.toNat);rw[(n7 _ _ _).1];exact h.aK
  ·show (r.aA.aA.aE p es).aA<=r.aH;rw[(n7 _ _ _).1];exact I.1
  ·show r.aE<=(r.aA.aA.aE p es).aC;rw[e3];omega
  ·rw[ll,tk _ (by show r.aH.toNat<=n;omega)];exact h.aF.1
  ·exact h.aA.of (tk _ (by show r.aE.toNat<=n;omega))
  ·by_cases c2:t=r.aA.aC
   ·rw[c2,hx]at hy
    injection hy with hy
    subst hy
    refine .inl ?_
    rw[ll,ef]
    refine V0 (V7 _ _) (V7 _ _) ?_
    simp only[UD]
    have:=u.length_le
    simp only[UD]at this
    apply UC
    intro z
    have e5:=mw (iU u (n:=n+1) (by simp only[UD];omega)) (i:=n) (by omega)
    rw[Vh (by omega),Ur (by omega),Ur (by omega)]at e5
    injection e5 with e5
    exact a3 c (by omega) (by omega) (by rw[e5])
   ·by_cases c3:y.l.take k<+:x.l0
    ·refine .inl ?_
     have px:=c3.trans (ok.aA _ _ hx).2.1
     rw[ll,ef]
     refine V0 px (V7 _ _) ?_
     obtain⟨K,hK⟩:∃K,K=y.l.take k:=⟨_,rfl⟩
     rw[<-hK]at px u ⊢
     have l1:=px.length_le
     have l2:=u.length_le
     simp only[UD]
     apply UC
     intro z
     have e5:=mw ((iU u (n:=n+1) (by omega)).trans (iU px (n:=n+1) (by omega)).symm) (i:=n) (by omega)
     rw[Ur (by omega),Ur (by omega)]at e5
     injection e5 with e5
     exact a3 c (by omega) (by omega) (by rw[e5])
    ·exact .inr ⟨r.aA.aC,x,by omega,UL _,hx,c3⟩
  ·rw[ef,Va,Wr]
 ·have c':r.aA.aA.aG (p+1) es=es.length:=by omega
  obtain⟨e1,e2⟩:=NO c'
  rw[c']at a1 a2
  refine⟨λz=>by rw[e2]at z;omega,by rw[e1];exact h,by rw[e1];exact a1,by rw[e1];omega⟩
theorem gB.bw (ok:G.ok)(h:gB G D r){b:Int}(hb:r.aA.aA.aF b=true)(hD:(f_ D r).take b.toNat=D.take b.toNat)(e:b<=D.length):
  (r.aA.aA.aK b).on D/\gF D (r.aA.aA.aK b)=f_ D r/\(r.aA.aA.aK b).aC=r.aA.aA.aC/\(r.aA.aA.aK b).aA=b:=by
 obtain⟨e1,e2⟩:=BI hb;obtain⟨q1,q2⟩:=lL.1 hb;have hb0:=h.on.aA;have hlen:=h.aQ;refine⟨⟨by rw[e1];exact⟨by show 0<=b;omega,e⟩,by rw[e1];show r.aA.aA.aJ b=iD (D.take b.toNat);rw[h.on.aD hb,<-hD]⟩,?_,e2,by rw[e1]⟩;rw[e1];unfold gF;simp only;rw[<-hD];show (gF D r.aA.aA).take b.toNat++_=gF D r.aA.aA;have:r.aA.aA.es.drop (b-r.aA.aA.aA).toNat=(gF D r.aA.aA).drop b.toNat:=by unfold gF;have e0:(D.take r.aA.aA.aA.toNat).drop b.toNat=[]:=Wh (by rw[h.on.aC];omega);rw[List.drop_append,e0,h.on.aC,VH];congr 1;omega
 rw[this,VO]
theorem gB.a_ (ok:G.ok)(h:gB G D r){x:mA}(hx:G.aA r.aA.aC=some x) (h0:r.aG=0/\r.aC=[]) {b:Int} (hb0:r.aE<b) (I:b<=D.length) (M:G.aI r.aA.aC b (D.take b.toNat)) {sn:List Int} (hs:gI sn/\sn.length<=1):
  gB G D {r with aA:={r.aA with aA:=r.aS b (iD (D.take b.toNat)),aD:=iL G.c0 (D.take b.toNat),aG:=sn},aE:=b,aH:=b}/\(gF D (r.aS b (iD (D.take b.toNat)))).take b.toNat=x.l.take b.toNat/\b.toNat<=x.l.length:=by
 have hlen:=h.aQ
 have at0:=h.aD
 have hbb:=h.on.aA
 obtain⟨b1,b2⟩:=ok.aJ M hx
 rw[Va,Wr]at b1
 have fx:=(ok.aA _ _ hx).2.2.2.2.1
 unfold eZ.aS
 by_cases c:r.aA.aA.aF b=true/\r.aA.aA.aJ b=iD (D.take b.toNat)
 ·rw[Uv c]
  obtain⟨c1,c2⟩:=c
  obtain⟨q1,q2⟩:=lL.1 c1
  rw[h.on.aD c1,b1]at c2
  have e:=h.aC.aD fx (n:=b.toNat) (by omega) b2 c2
  obtain⟨k1,k2,k3,k4⟩:=h.bw ok c1 (e.trans b1.symm) I
  refine⟨h.aU (r':={r with aA:={r.aA with aA:=r.aA.aA.aK b,aD:=iL G.c0 (D.take b.toNat),aG:=sn},aE:=b,aH:=b}) rfl rfl rfl k1 (by show G.aF (gF D (r.aA.aA.aK b));rw[k2];exact h.aC) (by show Glb.mJ (gF D (r.aA.aA.aK b));rw[k2];exact h.aI) (by show ∀e∈gF D (r.aA.aA.aK b),_;rw[k2];exact h.le) (by show iL G.c0 (D.take b.toNat)=iL G.c0 (D.take (r.aA.aA.aK b).aA.toNat);rw[k4]) hs ⟨by show (r.aA.aA.aK b).aA<=b;omega,UL _,by show b<=(r.aA.aA.aK b).aC;omega⟩ ⟨?_,I⟩ ?_ (λt k hk y hy O u=>.inl (by show _<+:gF D (r.aA.aA.aK b);rw[k2];exact u)) (.inl h0),by rw[k2];exact e,b2⟩
  ·show (gF D (r.aA.aA.aK b)).take b.toNat=_;rw[k2];exact e.trans b1.symm
  ·show G.aI _ b (gF D (r.aA.aA.aK b))
   rw[k2]
   refine M.of ?_
   rw[Va,Wr];exact e.trans b1.symm
 ·rw[Uw c]
  have ef:gF D ⟨b,iD (D.take b.toNat),[]⟩=D.take b.toNat:=by unfold gF;simp
  refine⟨h.aU (r':={r with aA:={r.aA with aA:=⟨b,iD (D.take b.toNat),[]⟩,aD:=iL G.c0 (D.take b.toNat),aG:=sn},aE:=b,aH:=b}) rfl rfl rfl ⟨⟨by show 0<=b;omega,I⟩,rfl⟩ (by show G.aF (gF D _);rw[ef,b1];exact fx.aC _) (by show Glb.mJ (gF D _);rw[ef,b1];exact (ok.aP hx).1.sublist (List.take_sublist _ _)) (by show ∀e∈gF D _,_;rw[ef,b1];intro e he;exact (ok.aP hx).2 e (U9 he)) rfl hs ⟨UL _,UL _,by show b<=b+_;simp⟩ ⟨?_,I⟩ ?_ (λt k hk y hy O u=>?_) (.inl h0),by rw[ef,Va,Wr];exact b1,b2⟩
  ·show (gF D _).take b.toNat=_;rw[ef,Va,Wr]
  ·show G.aI _ b (gF D _);rw[ef];exact M
  ·show _<+:gF D _\/_
   rw[ef,b1]
   obtain⟨K,hK⟩:∃K,K=y.l.take k:=⟨_,rfl⟩
   rw[<-hK]at u ⊢
   have E:K<+:x.l->K<+:x.l.take b.toNat:=λpx=>by
    refine V0 px (V7 _ _) ?_
    simp only[UD]
    apply UC
    intro z
    have l2:=u.length_le
    have e1:(f_ D r).take b.toNat=x.l.take b.toNat:=(iU u (by omega)).trans (iU px (by omega)).symm
    have hh:r.aA.aA.aF b=true:=lL.2 ⟨by omega,by omega⟩
    exact c ⟨hh,by rw[h.on.aD hh,b1];exact WQ iD e1⟩
   by_cases c2:t=r.aA.aC
   ·rw[c2,hx]at hy
    injection hy with hy
    exact .inl (E (by rw[hK,hy];exact V7 _ _))
   ·by_cases c3:K<+:x.l0
    ·exact .inl (E (c3.trans (ok.aA _ _ hx).2.1))
    ·exact .inr ⟨r.aA.aC,x,by omega,UL _,hx,c3⟩
end
theorem Fe {c:fq}(h:c.aE=true):iS.ok c:=by
 obtain⟨-,⟨h1,h2⟩,⟨h3,h4⟩,⟨h5,h6⟩,-⟩:=vz.1 h;have f:=mI h;have k:∀l:List Int,(∀m∈l,1<=m/\m<=7)->∀m∈l,hU m:=λl hl m hm=>by have:=hl m hm;constructor<;>omega
 have a:=k _ h2;have b:=k _ h4;have c':=k _ h6;obtain⟨f1,f2,f3⟩:=f;refine⟨⟨?_,a⟩,⟨?_,b⟩,⟨?_,c'⟩⟩<;>(simp only;omega)
theorem Ml {c:fq}(h:c.aE=true):ie c.aG=(c,0):=by have e:=iS.aE c [] (Fe h);rw[uO,Vo]at e;unfold ie;rw[e];simp[fH.aD,h]
theorem En {c:fq}(h:c.aE=true):gI c.aG:=by rw[<-uO];exact iS.aF c (Fe h)
theorem SU {a b:List Int}(ha:gI a/\a.length<=2^20)(hb:gI b/\b.length<=2^20):iH (gJ a.length++a++gJ b.length++b)=(a,b,0):=by
 have e1:=ny.aE a (gJ b.length++b) ⟨by omega,ha.1⟩;have e2:=ny.aE b [] ⟨by omega,hb.1⟩;have u:ny.aA (some (gJ a.length++a++gJ b.length++b))=(a,some (gJ b.length++b)):=by rw[<-e1];congr 2;show _=(gJ a.length++a)++_;simp only[UW]
 have e:ny.aA (some (gJ b.length++b))=(b,some []):=by rw[<-e2];congr 2;show _=(gJ b.length++b)++_;simp
 unfold iH;simp only[u,e];rfl
theorem Ff {c:fq}(h:c.aE=true):c.aG.length<=256:=by obtain⟨f1,f2,f3⟩:=mI h;rw[ze];omega
theorem B7 {L:Es}{t:Int}(h:∀e∈L,e.aA<=t)(h0:0<=t)(n:Nat):iD (L.take n)<=t:=by
 by_cases c:(L.take n).length=0
 ·rw[Uz c];exact h0
 ·rw[rH (by omega)];exact h _ (U9 (UT _))
theorem Fw {G:gq}(ok:G.ok){L:Es}(h:G.aF L){i:Nat}(hi:i<L.length):0<L[i].aA:=by
 obtain⟨y,h1,-⟩:=h i hi
 exact (ok.aA _ y h1).1
theorem B8 {G:gq}(ok:G.ok){L:Es}(h:G.aF L)(n:Nat):0<=iD (L.take n):=by
 by_cases c:(L.take n).length=0
 ·rw[Uz c];exact UL _
 ·rw[rH (by omega)];exact Int.le_of_lt (Fw ok (h.aC n) (by omega))
structure gO (G:gq)(D:Es)(x:RX):Prop where
 aA:gB G D x.r
 aC:∀m∈x.o.aD,kO G D m
def ig (n:Nat)(G:gq)(D:Es)(k:Int)(x:RX):Prop:=∃G',G'.ok/\jf k G G'/\gO G' D x/\x.r.id=k/\∀B,G.aJ B->G'.aJ (B+n)
section
variable {G:gq} {D:Es} {k:Int} {x:RX} {m:fE}
theorem ig.aA {n:Nat}(ok:G.ok)(h:gO G D x):ig n G D x.r.id x:=⟨G,ok,jf.aD _ _,h,rfl,λB sB=>sB.aA (VG _ _)⟩
theorem ig.aF {n n':Nat}(h:ig n G D k x)(hn:n<=n'):ig n' G D k x:=let⟨G',a,b,c,d,e⟩:=h;⟨G',a,b,c,d,λB sB=>(e B sB).aA (Nat.add_le_add_left hn _)⟩
theorem ig.aD {n n':Nat}{y:RX}(h:ig n G D k x)(f:∀G',G'.ok->jf k G G'->gO G' D x->x.r.id=k->ig n' G' D k y):ig (n+n') G D k y:=by obtain⟨G',E,g,r,e,s⟩:=h;obtain⟨G2,u,g2,r2,e2,s2⟩:=f G' E g r e;exact⟨G2,u,g.aM g2,r2,e2,λB sB=>by have:=s2 _ (s B sB);rwa [V5]at this⟩
theorem gO.aI {r':eZ}{k:Int}{G':gq}(h:gO G D x)(g:jf k G G')(hm:gB G' D r'):gO G' D ⟨r',x.o⟩:=⟨hm,λm e=>(h.aC m e).aC g (Vw _)⟩
theorem gO.aD (h:gO G D x) (hm:kO G D {m with aC:=x.r.id,aM:=x.r.aA.aE,aF:=x.r.aA.aC}):gO G D (x.aK m):=
 ⟨h.aA,λa ha=>by
  rcases U4.1 ha with ha | ha;·exact h.aC a ha
  ·obtain rfl:a=_:=by simpa using ha
   exact hm⟩
theorem gO.aF (h:gO G D x){ok:Bool}{i:Int}(hb:0<=i/\(i=0\/∃t w,G.aA t=some w/\i<=w.l.length))(hi:ok=true->0<=i/\(i=0\/G.aE x.r.aA.aC x.r.id i.toNat)):gO G D (x.aS m ok i):=
 h.aD ⟨⟨h.aA.id,⟨UK _,λ_=>rfl⟩,⟨(λ_ h=>by cases h),UK _⟩,⟨UL _,h.aA.aE⟩,λ_=>hb⟩,(λe=>by cases e),(λe=>by cases e),(λe=>by cases e),λ_ o=>hi o,(λe=>by cases e)⟩
theorem gO.to (ok:G.ok)(h:gO G D x)(h2:x.r.aG=2){f:fR}(hf:1<=f.aC/\f.aC<=x.r.aA.aA.aC+1):gO G D (x.to f):=by
 obtain⟨l0,hl⟩:=h.aA.aN h2;have hlen:=h.aA.aQ;have E:=h.aA.on.aA;have at0:=h.aA.aD;unfold RX.to;refine h.aD ?_;unfold fR.aI;by_cases c:f.aC<=x.r.aA.aA.aA
 ·rw[Uv c];have cr:x.r.aA.aD.aE=true:=by rw[h.aA.aK];exact E_ ok.aK _
  have tb:=SU (a:=x.r.aA.aD.aG) (b:=x.r.aA.aG) ⟨En cr,by have:=Ff cr;omega⟩ ⟨h.aA.aG.1,by have:=h.aA.aG.2;omega⟩;have cl:=Ff cr;have sl:=h.aA.aG.2;have ag:=ok.aJ (h.aA.aA.aA (UL _) (show x.r.aA.aA.aA<=x.r.aE by omega)) hl;refine⟨⟨h.aA.id,⟨UK _,λ_=>rfl⟩,⟨?_,?_⟩,⟨?_,?_⟩,λ_=>⟨E.1,.inr ⟨_,_,hl,?_⟩⟩⟩,(λe=>by cases e),(λe=>by cases e),(λe=>by cases e),(λe=>by cases e),λ_=>⟨_,hl,E.1,E.2,h.aA.on.aE,?_,?_,?_,?_⟩⟩;·show gI (gJ x.r.aA.aD.aG.length++x.r.aA.aD.aG++gJ x.r.aA.aG.length++x.r.aA.aG);exact (((vg _).aC (En cr)).aC (vg _)).aC h.aA.aG.1
  ·show (gJ x.r.aA.aD.aG.length++x.r.aA.aD.aG++gJ x.r.aA.aG.length++x.r.aA.aG).length<=2^16;simp only[Ut,jr];omega
  ·show 0<=x.r.aA.aA.aD;rw[h.aA.on.aE,<-h.aA.on.aG (Uy _)];exact B8 ok h.aA.aC _
  ·show x.r.aA.aA.aD<=x.r.aA.aC;rw[h.aA.on.aE,<-h.aA.on.aG (Uy _)];exact B7 h.aA.le h.aA.aE _
  ·show x.r.aA.aA.aA<=((f_ D x.r).length:Int);omega
  ·refine (h.aA.aA.aA (UL _) (show x.r.aA.aA.aA<=x.r.aE by omega)).of ?_;show (D.take x.r.aA.aA.aA.toNat).take x.r.aA.aA.aA.toNat=_;rw[Va,Wr];exact (h.aA.on.aG (Uy _)).symm
  ·show (iH (gJ x.r.aA.aD.aG.length++x.r.aA.aD.aG++gJ x.r.aA.aG.length++x.r.aA.aG)).2.2=0;rw[tb]
  ·show ie (iH (gJ x.r.aA.aD.aG.length++x.r.aA.aD.aG++gJ x.r.aA.aG.length++x.r.aA.aG)).1=_;rw[tb,<-h.aA.aK];exact Ml cr
  ·show gI (iH (gJ x.r.aA.aD.aG.length++x.r.aA.aD.aG++gJ x.r.aA.aG.length++x.r.aA.aG)).2.1/\_;rw[tb];exact h.aA.aG
 ·rw[Uw c];have hh:x.r.aA.aA.aF (f.aC-1)=true:=lL.2 ⟨by omega,by omega⟩;have sl:=h.aA.on.aI (from_:=f.aC) (most:=8) (by omega) (by omega);have e8:(8:Int).toNat=8:=rfl;rw[e8]at sl;have u:(x.r.aA.aA.aI f.aC 8).length=min 8 ((f_ D x.r).length-(f.aC-1).toNat):=by rw[sl,UD,UP]
  refine⟨⟨h.aA.id,⟨?_,λz=>absurd rfl z⟩,⟨(λ_ h=>by cases h),UK _⟩,⟨?_,?_⟩,λ_=>⟨?_,.inr ⟨_,_,hl,?_⟩⟩⟩,(λe=>by cases e),(λe=>by cases e),λ_=>⟨_,hl,?_,?_,?_,?_,h.aA.aA⟩,(λe=>by cases e),(λe=>by cases e)⟩;·show (x.r.aA.aA.aI f.aC 8).length<=8;rw[u];omega
  ·show 0<=x.r.aA.aA.aJ (f.aC-1);rw[h.aA.on.aD hh];exact B8 ok h.aA.aC _
  ·show x.r.aA.aA.aJ (f.aC-1)<=x.r.aA.aC;rw[h.aA.on.aD hh];exact B7 h.aA.le h.aA.aE _
  ·show 0<=f.aC-1;omega
  ·show f.aC-1<=((f_ D x.r).length:Int);omega
  ·show 0<=f.aC-1;omega
  ·show f.aC-1+((x.r.aA.aA.aI f.aC 8).length:Int)<=(f_ D x.r).length;rw[u];omega
  ·exact h.aA.on.aD hh
  ·show x.r.aA.aA.aI f.aC 8=((f_ D x.r).drop (f.aC-1).toNat).take (x.r.aA.aA.aI f.aC 8).length;rw[u];conv=>lhs;rw[sl]
   have:((f_ D x.r).drop (f.aC-1).toNat).length=(f_ D x.r).length-(f.aC-1).toNat:=UP;rw[<-this,<-List.take_eq_take_min]
theorem gO.aM (ok:G.ok)(h:gO G D x)(h2:x.r.aG=2):∀{l:List fR},(∀f∈l,1<=f.aC/\f.aC<=x.r.aA.aA.aC+1)->gO G D (x.aO l)/\(x.aO l).r=x.r:=by
 intro l;induction l generalizing x with
 | nil=>intro _;exact⟨h,rfl⟩
 | cons f l ih=>intro hl;have h1:=h.to ok h2 (hl f (by simp));exact ih h1 h2 (λa ha=>hl a (by simp[ha]))
theorem gO.on (ok:G.ok)(h:gO G D x)(h2:x.r.aG=2):gO G D x.on/\x.on.r=x.r:=h.aM ok h2 (λf hf=>(h.aA.aO f hf).1)
theorem gO.aJ (ok:G.ok)(h:gO G D x)(h2:x.r.aG=2):ig 0 G D x.r.id x.aH:=by
 unfold RX.aH eZ.aV;split
 ·rename_i c;have at0:=h.aA.aD;have hb0:=h.aA.on.aA;obtain⟨G',e,g,s,m'⟩:=h.aA.aZ ok h2 c.1 c.2.1 c.2.2 (Q:=mP x.r.bz ((x.r.id :: x.r.aC.map fR.aD).zip (x.r.aM :: x.r.aC.map fR.aE))) (Jl (by show 0<x.r.bz;omega)) (λv hv=>by
   simp only[mP,Vz,Wi,Vb,List.zip_cons_cons,Vg]at hv;obtain⟨p,⟨hp,hq⟩,rfl⟩:=hv;rcases hp with rfl | hp
   ·exact .inl rfl
   ·rw[List.zip_map',Vz]at hp;obtain⟨f,hf,rfl⟩:=hp;exact .inr ⟨f,hf,rfl,hq⟩)
  exact⟨G',e,g,h.aI g m',rfl,s⟩
 ·exact ig.aA ok h
theorem Ge (r:eZ)(was:List fR)(last:Int):∀f∈(r.bx was last).aC,f∈was\/(f.aC=last+1/\f.aE=0):=by
 intro f hf;simp only[eZ.bx,Vz,Wi]at hf;obtain⟨n,-,rfl⟩:=hf;unfold lK;cases e:was.find? λf=>decide (f.aD=n) with
 | none=>exact .inr ⟨rfl,rfl⟩
 | some w=>exact .inl (List.mem_of_find?_eq_some e)
theorem FX (x:RX)(kind:Int)(data:List Int):(x.aF kind data).r.id=x.r.id/\(x.aF kind data).r.aA=(x.r.bA ⟨x.r.aA.aC,kind,data⟩).aA/\(x.aF kind data).r.aH=x.r.aH/\(x.aF kind data).r.aE=x.r.aE/\(x.aF kind data).r.aG=x.r.aG/\(x.aF kind data).o.aD=x.o.aD/\∀f∈(x.aF kind data).r.aC,f∈x.r.aC\/(f.aC=x.r.aA.aA.aC+1/\f.aE=0):=by
 have e:x.r.aA.aA.aE x.r.aM [⟨x.r.aA.aC,kind,data⟩]=⟨x.r.aA.aA.aA,x.r.aA.aA.aD,x.r.aA.aA.es++[⟨x.r.aA.aC,kind,data⟩]⟩:=qA _ _;unfold RX.aF;simp only[e];by_cases c:kind=2;·rw[Uv c];exact⟨rfl,rfl,rfl,rfl,rfl,rfl,Ge _ _ _⟩
 ·rw[Uw c];exact⟨rfl,rfl,rfl,rfl,rfl,rfl,λf hf=>.inl hf⟩
theorem gO.aO (ok:G.ok)(h:gO G D x)(h2:x.r.aG=2){kind:Int}{data:List Int}(hs:fT.aF ⟨x.r.aA.aC,kind,data⟩)(hc:kind=2->pY x.r.aN (ie data).1/\x.r.aA.of.2<=x.r.aE):ig 1 G D x.r.id (x.aF kind data)/\(x.aF kind data).r.aG=2:=by obtain⟨e1,e2,e3,e4,e5,e6,e7⟩:=FX x kind data;obtain⟨G',u,g,s,f⟩:=h.aA.bD ok h2 (e:=⟨x.r.aA.aC,kind,data⟩) rfl hs (λz=>hc z.1);exact⟨⟨G',u,g,⟨f _ e1 e2 e3 e4 (e5.trans h2) e7,λm hm=>(h.aC m (by rw[e6]at hm;exact hm)).aC g (Vw _)⟩,e1,s⟩,e5.trans h2⟩
theorem gO.aG {n:Nat}(ok:G.ok)(h:ig n G D k x)(h2:x.r.aG=2):ig n G D k (x.on).aH/\(x.on).aH.r.aG=2:=by
 refine⟨h.aD (n':=0) λG' u g r e=>?_,?_⟩;·obtain⟨r1,e1⟩:=r.on u h2;have:=r1.aJ u (by rw[e1];exact h2);rw[e1,e]at this;exact this
 ·obtain⟨G',u,g,r,e,-⟩:=h;obtain⟨r1,e1⟩:=r.on u h2;show (x.on).r.aV.aG=2;unfold eZ.aV;split;·show (x.on).r.aG=2;rw[e1];exact h2
  ·rw[e1];exact h2
theorem OE (t:Int):fT.aF ⟨t,0,[]⟩:=⟨(λ_ h=>by cases h),UK _,by show (0:Int)<=0;omega,by show (0:Int)<=2;omega⟩
theorem gO.aH (ok:G.ok)(h:gO G D x)(h1:x.r.aG=1)(hw:x.r.aN.aF x.r.aI=true):ig 1 G D x.r.id x.aN:=by
 obtain⟨y,hy⟩:∃y:RX,y={x with r:=({x.r with aG:=2,aX:=x.r.id,aO:=0,aI:=[],aC:=[]}:eZ).bx [] x.r.aM}:=⟨_,rfl⟩;have u:y.r.id=x.r.id:=by rw[hy];rfl
 have yh:y.r.aA=x.r.aA:=by rw[hy];rfl
 obtain⟨e1,e2,e3,e4,e5,e6,e7⟩:=FX y 0 [];obtain⟨G',E,g,s,f⟩:=h.aA.bE ok h1 hw (e:=⟨x.r.aA.aC,0,[]⟩) rfl (OE _) (λz=>by cases z.1);have g1:ig 1 G D x.r.id (y.aF 0 []):=by
  refine⟨G',E,g,⟨f _ (e1.trans u) (by rw[e2];show (y.r.bA _).aA=_;unfold eZ.bA;rw[yh]) (e3.trans (by rw[hy];rfl)) (e4.trans (by rw[hy];rfl)) (e5.trans (by rw[hy];rfl)) ?_,λm hm=>(h.aC m (by rw[e6,hy]at hm;exact hm)).aC g (Vw _)⟩,e1.trans u,s⟩;intro f hf;rcases e7 f hf with z | z
  ·rw[hy]at z;rcases Ge _ _ _ f z with z | z;·cases z
   ·exact .inr z
  ·rw[yh]at z;exact .inr z
 have e:x.aN=((y.aF 0 []).on).aH:=by rw[hy];rfl
 rw[e];exact (gO.aG ok g1 (e5.trans (by rw[hy];rfl))).1
theorem R_ {l:List fE}:∀{x:RX},gO G D x->(∀m∈l,kO G D {m with aC:=x.r.id,aM:=x.r.aA.aE,aF:=x.r.aA.aC})->gO G D (x.aM l)/\(x.aM l).r=x.r:=by
 induction l with
 | nil=>intro x h _;exact⟨h,rfl⟩
 | cons m l ih=>intro x h hl;exact ih (h.aD (hl m (by simp))) (λa ha=>hl a (by simp[ha]))
theorem gO.aQ (ok:G.ok)(h:gO G D x)(u:Int):ig 2 G D x.r.id (x.aV u):=by
 obtain⟨z,hz⟩:∃z:RX,z=⟨{x.r with aA:={x.r.aA with aC:=x.r.aA.aC+1,aF:=x.r.id},aG:=1,aX:=0,aK:=0,aY:=lZ u,aC:=[],aI:=[x.r.id]},(x.aX {fZ.aI with aC:=1,aK:=x.r.aA.aC+1,aL:=x.r.id}).o⟩:=⟨_,rfl⟩;obtain⟨G',E,g,sl,st,c',m'⟩:=h.aA.bH ok (by have:=h.aA.id;omega) (lZ u) 0;have rz:gO G' D z:=by rw[hz];exact⟨m',λm hm=>(h.aC m hm).aC g (Vw _)⟩
 have I:z.r.id=x.r.id:=by rw[hz]
 have e:x.aV u=if z.r.aN.aF z.r.aI then z.aN else z.aM (kj z.r.id z.r.aA.aE z.r.aA.aC z.r.aA.aA z.r.aN):=by rw[hz];rfl
 rw[e];by_cases c:z.r.aN.aF z.r.aI=true;·rw[Uv c];obtain⟨G2,M,g2,r2,e2,s2⟩:=rz.aH E (by rw[hz]) c;rw[I]at g2 e2;exact⟨G2,M,g.aM g2,r2,e2,λB sB=>s2 (B+1) ⟨λt w hw=>Nat.le_succ_of_le (sB.1 t w (by rw[<-sl];exact hw)),by have:=sB.2;omega⟩⟩
 ·rw[Uw c];have fz:f_ D z.r=f_ D x.r:=by rw[hz]
  obtain⟨r2,e2⟩:=R_ (l:=kj z.r.id z.r.aA.aE z.r.aA.aC z.r.aA.aA z.r.aN) rz (λm hm=>by
   simp only[kj,Vz]at hm;obtain⟨n,-,rfl⟩:=hm;refine⟨⟨rz.aA.id,⟨UK _,λ_=>rfl⟩,⟨(λ_ h=>by cases h),UK _⟩,⟨?_,?_⟩,(λe=>absurd e (by show ¬(3:Int)<=1;omega))⟩,λ_=>⟨f_ D x.r,?_,?_,?_⟩,(λe=>by cases e),(λe=>by cases e),(λe=>by cases e),(λe=>by cases e)⟩;·show 0<=z.r.aA.aA.aL;rw[rz.aA.on.aF];have:=B8 E rz.aA.aC (f_ D z.r).length;rw[U7]at this;exact this
   ·show z.r.aA.aA.aL<=z.r.aA.aC;rw[rz.aA.on.aF];have:=B7 rz.aA.le rz.aA.aE (f_ D z.r).length;rw[U7]at this;exact this
   ·show G'.aG z.r.aA.aC z.r.id=_;rw[hz];exact c'
   ·show z.r.aA.aA.aC=_;rw[<-fz];exact rz.aA.aQ.symm
   ·show z.r.aA.aA.aL=_;rw[<-fz];exact rz.aA.on.aF)
  exact⟨G',E,g,r2,by rw[e2];exact I,λB sB=>⟨λt w hw=>UH (sB.1 t w (by rw[<-sl];exact hw)) (VG _ _),by have:=sB.2;omega⟩⟩
end
end Glb
