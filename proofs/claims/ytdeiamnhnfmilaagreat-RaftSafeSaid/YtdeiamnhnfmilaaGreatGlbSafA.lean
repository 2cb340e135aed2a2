/-
  A library of its own.
-/
import Derived.Test.YtdeiamnhnfmilaaGreatGlbRafD
set_option linter.unusedSimpArgs false
set_option linter.unusedVariables false
set_option maxRecDepth 10000
namespace Glb
open Go
abbrev Es:=List fU
theorem iX {a b:Es}{n:Nat}(h:a<+:b)(hn:n<=a.length):b.take n=a.take n:=by obtain⟨c,rfl⟩:=h;rw[Vz hn]
theorem Dr {a b:Es}(h:b.take a.length=a):a<+:b:=by have:=WH a.length b;rwa [h]at this
theorem oX {a b:Es}{n:Nat}(h:a.take n=b.take n)(hn:n<=a.length):n<=b.length:=by have:=W_ List.length h;simp only[Va]at this;omega
theorem kJ {a b:Es}{m n:Nat}(h:a.take n=b.take n)(hm:m<=n):a.take m=b.take m:=by
 have e:(a.take n).take m=(b.take n).take m:=by rw[h]
 simpa [VG,VT hm] using e
theorem mh {a b:Es}{n i:Nat}(h:a.take n=b.take n)(hi:i<n):a[i]?=b[i]?:=by
 have e:(a.take n)[i]?=(b.take n)[i]?:=by rw[h]
 simpa [VZ,hi] using e
def iJ:Es->Es->Nat
 | a :: r,b :: s=>if a=b then iJ r s+1 else 0
 | _,_=>0
theorem xI:∀a b:Es,a.take (iJ a b)=b.take (iJ a b)
 | [],b=>by cases b<;>simp[iJ]
 | a :: r,[]=>by simp[iJ]
 | a :: r,b :: s=>by
  unfold iJ;by_cases c:a=b;·rw[U4 c,WU,WU,xI r s,c]
  ·rw[U6 c];simp
theorem xH:∀a b:Es,iJ a b<=a.length/\iJ a b<=b.length
 | [],b=>by cases b<;>simp[iJ]
 | a :: r,[]=>by simp[iJ]
 | a :: r,b :: s=>by
  have:=xH r s;unfold iJ;by_cases c:a=b;·rw[U4 c];simp only[Vf];omega
  ·rw[U6 c];omega
theorem vj:∀{a b:Es}{n:Nat},a.take n=b.take n->n<=a.length->n<=iJ a b
 | _,_,0,_,_=>Vk _
 | [],_,n+1,_,h2=>by simp at h2
 | a :: r,[],n+1,h1,_=>by simp at h1
 | a :: r,b :: s,n+1,h1,h2=>by rw[WU,WU]at h1;injection h1 with e1 e2;unfold iJ;rw[U4 e1];have:=vj e2 (by simpa using h2);omega
theorem xY {P:Es->Prop} (h0:P []) (h1:∀l e,P l->P (l++[e])):∀l,P l:=by
 suffices h:∀(n:Nat)(l:Es),l.length=n->P l from λl=>h _ l rfl
 intro n;induction n with
 | zero=>intro l hl;rw[U7 hl];exact h0
 | succ n ih=>
  intro l hl;have u:l≠[]:=by rintro rfl;simp at hl
  rw[<-List.dropLast_concat_getLast u];exact h1 _ _ (ih _ (by simp[hl]))
def fU.aE (e:fU):Prop:=e.aD=2/\(im e.aC).2=0
instance (e:fU):Decidable e.aE:=inferInstanceAs (Decidable (_/\_))
def fR (l:Es):Nat:=match jR l l.length with
 | none=>0
 | some (_,k)=>k+1
def iB (c0:fq)(l:Es):fq:=match jR l l.length with
 | none=>c0
 | some (c,_)=>c
theorem FW:∀{l m:Es}{k:Nat},l.take k=m.take k->jR l k=jR m k
 | _,_,0,_=>rfl
 | l,m,k+1,h=>by have e:=mh h (i:=k) (by omega);have ih:=FW (kJ h (WQ k));unfold jR;rw[e,ih]
theorem Cb (l:Es)(e:fU):jR (l++[e]) (l++[e]).length=if e.aE then some ((im e.aC).1,l.length) else jR l l.length:=by
 rw[U1,VW];conv=>lhs;unfold jR
 rw[Vp (U8 _)];simp only[Xp,Vw];have:jR (l++[e]) l.length=jR l l.length:=FW (by simp);rw[this];rfl
theorem LG:fR []=0:=rfl
theorem xk (l:Es)(e:fU):fR (l++[e])=if e.aE then l.length+1 else fR l:=by
 unfold fR;rw[Cb];by_cases c:e.aE;·rw[U4 c,U4 c]
 ·rw[U6 c,U6 c]
theorem xm (c0:fq)(l:Es)(e:fU):iB c0 (l++[e])=if e.aE then (im e.aC).1 else iB c0 l:=by
 unfold iB;rw[Cb];by_cases c:e.aE;·rw[U4 c,U4 c]
 ·rw[U6 c,U6 c]
theorem mT (l:Es):fR l<=l.length:=by
 unfold fR;split;·omega
 ·rename_i c k h;have:=Ca h;omega
theorem qi (l:Es):(∀k (h:k<l.length),fR l<=k->¬l[k].aE)/\(0<fR l->∃h:fR l-1<l.length,l[fR l-1].aE):=by
 induction l using xY with
 | h0=>exact⟨λk h=>by simp at h,λh=>by simp[LG]at h⟩
 | h1 l e ih=>
  rw[xk];by_cases c:e.aE;·rw[U4 c];refine⟨λk h hk=>by simp at h;omega,λ_=>⟨by simp,?_⟩⟩;simp only[Nat.add_sub_cancel];rw[Ww (U8 _)];simpa using c
  ·rw[U6 c];refine⟨λk h hk=>?_,λh0=>?_⟩
   ·by_cases ck:k<l.length
    ·rw[Wn ck];exact ih.1 k ck hk
    ·have:k=l.length:=by simp at h;omega
     subst this;rw[Ww (U8 _)];simpa using c
   ·obtain⟨h1,h2⟩:=ih.2 h0;refine⟨by simp;omega,?_⟩;rw[Wn h1];exact h2
theorem B7 {l:Es}{k:Nat}(h:k<l.length) (hc:l[k].aE):k+1<=fR l:=by apply Vb;intro z;exact (qi l).1 k h (by omega) hc
theorem uS (c0:fq){l:Es}{k:Nat}(hk:fR l<=k):iB c0 (l.take k)=iB c0 l/\fR (l.take k)=fR l:=by
 induction l using xY with
 | h0=>simp
 | h1 l e ih=>
  by_cases c:l.length+1<=k
  ·rw[Vs (by simpa using c)];exact⟨rfl,rfl⟩
  ·have hl:k<=l.length:=by omega
   rw[Vz hl];rw[xk]at hk;by_cases ce:e.aE;·rw[U4 ce]at hk;omega
   ·rw[U6 ce]at hk;rw[xm,xk,U6 ce,U6 ce];exact ih hk
theorem B_ (l:Es)(k:Nat):fR (l.take k)<=fR l:=by
 by_cases c:fR (l.take k)=0
 ·omega
 ·obtain⟨h1,h2⟩:=(qi (l.take k)).2 (by omega);rw[Wm]at h2;have h3:fR (l.take k)-1<l.length:=by simp at h1;omega
  have:=B7 h3 h2;omega
theorem Mt {k a b:List Int}(hk:k.Nodup)(ha:lK k a=true)(hb:lK k b=true):∃n,n∈a/\n∈b:=by
 apply Vb;intro h;have h':∀n,n∈a->n∉b:=λn h1 h2=>h ⟨n,h1,h2⟩;unfold lK at ha hb;simp only[VD]at ha hb;have e:∀l:List Int,l.countP (λn=>decide (n∈a))+l.countP (λn=>decide (n∈b))<=l.length:=by
  intro l;induction l with
  | nil=>simp
  | cons x l ih=>
   simp only[List.countP_cons,Vf];by_cases c1:x∈a;·have c2:=h' x c1;simp only[c1,c2,decide_true,Wq,VS,Vn,VI];omega
   ·simp only[c1,Wq,Vn,VI];split<;>omega
 have:=e k;omega
def fq.aS (c:fq):List Int:=if c.aC=[] then c.aA else c.aC
theorem UO {c:fq}{a:List Int}(h:c.aH a=true):lK c.aS a=true:=by
 unfold fq.aH at h;simp only[Vq,We,VD]at h;unfold fq.aS;by_cases hn:c.aC=[];·rw[U4 hn];exact h.1
 ·rw[U6 hn];rcases h.2 with h | h;·exact absurd (U7 h) hn
  ·exact h
def pb (c c':fq):Prop:=(∃n,c.aM n=(c',0))\/(∃n,c.aI n=(c',0))\/∃far,c.aJ far=(c',true)
theorem G8 {c:fq}{n:Int}(h:c.aL n=0):c.aN=false:=by
 unfold fq.aL at h;by_cases c1:c.aE=false;·rw[U4 c1]at h;cases h
 ·rw[U6 c1]at h;by_cases c2:n<1\/7<n;·rw[U4 c2]at h;cases h
  ·rw[U6 c2]at h;by_cases c3:c.aN=true;·rw[U4 c3]at h;cases h
   ·simpa using c3
theorem E4 {c:fq}(h:c.aN=false):c.aC=[]/\c.aD=[]:=by unfold fq.aN at h;simp only[V7]at h;exact⟨U7 (by omega),U7 (by omega)⟩
theorem UQ {c c':fq}{b:List Int}(h:pb c c')(hb:c'.aH b=true):lK c.aS b=true:=by
 have o:∀x:fq,x.aH b=true->lK x.aA b=true:=λx hx=>by unfold fq.aH at hx;simp only[Vq]at hx;exact hx.1
 rcases h with⟨n,h⟩ | ⟨n,h⟩ | ⟨u,h⟩
 ·unfold fq.aM at h;by_cases c1:c.aL n≠0;·rw[U4 c1]at h;injection h with _ e;exact absurd e c1
  ·rw[U6 c1]at h;by_cases c2:n∈c.aA;·rw[U4 c2]at h;injection h with _ e;cases e
   ·rw[U6 c2]at h;injection h with e _;subst e;have:=E4 (G8 (by simpa using c1));unfold fq.aS;rw[U4 this.1];exact (have z:=o _ hb;z)
 ·unfold fq.aI at h;by_cases c1:c.aL n≠0;·rw[U4 c1]at h;injection h with _ e;exact absurd e c1
  ·rw[U6 c1]at h;by_cases c2:n∉c.aA;·rw[U4 c2]at h;injection h with _ e;cases e
   ·rw[U6 c2]at h;by_cases c3:c.aA.length=1;·rw[U4 c3]at h;injection h with _ e;cases e
    ·rw[U6 c3]at h;injection h with e _;subst e;have:=E4 (G8 (by simpa using c1));unfold fq.aS;rw[U4 this.1];exact (have z:=o _ hb;z)
 ·unfold fq.aJ at h;by_cases c1:c.aV u=true;·rw[U4 c1]at h;injection h with _ e;cases e
  ·rw[U6 c1]at h;by_cases c2:0<c.aC.length;·rw[U4 c2]at h;injection h with e _;subst e;unfold fq.aS;rw[U6 (λz=>by rw[z]at c2;simp at c2)];exact (have z:=o _ hb;z)
   ·rw[U6 c2]at h;injection h with e _;subst e;unfold fq.aS;rw[U4 (U7 (by omega))];exact (have z:=o _ hb;z)
structure mq where
 id:Int
 l0:Es
 l:Es
structure yF where
 aC:Int
 aA:Es
 aD:Bool
structure vS where
 t:Int
 n:Nat
 l:Es
structure gx where
 c0:fq
 aA:Int->Option mq
 aC:Int->Int->Option yF
 aG:Int->Int->Option Es
 aF:Int->Int->Nat->Prop
 aD:List vS
 aH:Int
def iH (l:Es):Int:=match l.getLast? with
 | some e=>e.aA
 | none=>0
def rL (a b:Es):Prop:=iH b<iH a\/(iH a=iH b/\b.length<=a.length)
def gx.aE (G:gx)(L:Es):Prop:=∀i (h:i<L.length),∃r,G.aA L[i].aA=some r/\L.take (i+1)=r.l.take (i+1)/\r.l0.length<=i
def me (L:Es):Prop:=L.Pairwise λa b=>a.aA<=b.aA
structure gx.aK (G:gx)(b:Bool)(t id:Int)(L:Es):Prop where
 aA:G.aE L
 aD:me L
 lt:∀e∈L,e.aA<t
 aC:∃Q,(iB G.c0 L).aH Q=true/\∀v∈Q,∃w,G.aC t v=some w/\w.aC=id/\(w.aD=true->b=true)/\rL L w.aA
def fU.aF (e:fU):Prop:=gF e.aC/\e.aC.length<=256/\0<=e.aD/\e.aD<=2
structure gx.ok (G:gx):Prop where
 aK:G.c0.aE=true
 aG:∀t r,G.aA t=some r->∀e∈r.l,e.aF
 aA:∀t r,G.aA t=some r->0<t/\r.l0<+:r.l/\r.l0.length<r.l.length/\(∀i (h:i<r.l.length),r.l0.length<=i->r.l[i].aA=t)/\G.aE r.l/\G.aK false t r.id r.l0
 aH:∀t v w,G.aC t v=some w->G.aE w.aA/\me w.aA
 aE:∀t v n,G.aF t v n->∃r,G.aA t=some r/\n<=r.l.length
 aI:∀t v n m,G.aF t v n->m<=n->G.aF t v m
 aL:∀t v n t' w r,G.aF t v n->G.aC t' v=some w->t<t'->G.aA t=some r->r.l.take n<+:w.aA\/∃s r',t<s/\(s<t'\/(w.aD=true/\s=t'))/\G.aA s=some r'/\¬r.l.take n<+:r'.l0
 aM:∀t v w,G.aC t v=some w->∃L,G.aG t w.aC=some L/\rL L w.aA
 aN:∀t v w,G.aC t v=some w->w.aD=true->∃r,G.aA t=some r
 aF:∀t v L,G.aG t v=some L->G.aE L/\Glb.me L/\∀e∈L,e.aA<t
 aC:∀c∈G.aD,∃r,G.aA c.t=some r/\c.l<+:r.l/\r.l0.length<c.n/\c.n<=c.l.length/\∃Q,(iB G.c0 c.l).aH Q=true/\∀v∈Q,G.aF c.t v c.n
 aO:∀a c b,G.aD=a++c :: b->∀p (h:p<c.l.length),c.l[p].aE->p+1<fR c.l->∃c'∈b,p+1<=c'.n/\c'.t<=c.t/\c'.l.take (p+1)=c.l.take (p+1)
 aD:∀t r,G.aA t=some r->∀j (h:j<r.l.length),r.l[j].aE->r.l0.length<=j->pb (iB G.c0 (r.l.take j)) (iB G.c0 (r.l.take (j+1)))/\(fR (r.l.take j)=0\/∃c'∈G.aD,fR (r.l.take j)<=c'.n/\c'.t<=t/\c'.l.take (fR (r.l.take j))=r.l.take (fR (r.l.take j)))
theorem Ic {L:Es}(h:me L){i j:Nat}(hij:i<=j)(hj:j<L.length):(L[i]'(by omega)).aA<=L[j].aA:=by
 by_cases c:i=j
 ·subst c;exact Vi _
 ·exact WW.1 h i j (by omega) hj (by omega)
theorem rH {L:Es}(h:0<L.length):iH L=(L[L.length-1]'(by omega)).aA:=by unfold iH;rw[List.getLast?_eq_getElem?,U0 (by omega)]
theorem RE {L:Es}(h:me L){i:Nat}(hi:i<L.length):L[i].aA<=iH L:=by rw[rH (by omega)];exact Ic h (by omega) (by omega)
theorem gx.aE.aC {G:gx}{L:Es}(h:G.aE L)(n:Nat):G.aE (L.take n):=by intro i hi;simp only[Va]at hi;obtain⟨r,h1,h2,h3⟩:=h i (by omega);refine⟨r,by rw[Wm];exact h1,?_,h3⟩;rw[VG,VT (by omega)];exact h2
theorem FR {c0:fq}(h:c0.aE=true)(L:Es):(iB c0 L).aE=true:=by
 induction L using xY with
 | h0=>exact h
 | h1 l e ih=>
  rw[xm];by_cases c:e.aE;·rw[U4 c];exact uY c.2
  ·rw[U6 c];exact ih
theorem Ov {c:fq}(h:c.aE=true):c.aS.Nodup:=by
 obtain⟨-,⟨h1,-⟩,⟨h2,-⟩,-⟩:=mY.1 h;unfold fq.aS;split;·exact h1.aA
 ·exact h2.aA
section
variable {G:gx}
theorem gx.ok.bu (ok:G.ok){L:Es}(hL:G.aE L){j:Nat}(hj:j<L.length) (hc:L[j].aE):pb (iB G.c0 (L.take j)) (iB G.c0 (L.take (j+1))):=by
 obtain⟨r,h1,h2,h3⟩:=hL j hj
 have hr:=oX h2 (by omega)
 have e:=mh h2 (i:=j) (by omega)
 rw[U0 hj,U0 (by omega)]at e
 injection e with e
 have:=(ok.aD _ r h1 j (by omega) (e▸hc) h3).1
 rw[kJ h2 (WQ j),h2]
 exact this
theorem gx.ok.aT (ok:G.ok){L L':Es}(hL:G.aE L)(u:G.aE L') (h1:fR L=fR (L.take (iJ L L'))\/fR (L.take (fR L-1))=fR (L.take (iJ L L')))
  (h2:fR L'=fR (L.take (iJ L L'))\/fR (L'.take (fR L'-1))=fR (L.take (iJ L L'))) {a b:List Int} (ha:(iB G.c0 L).aH a=true) (hb:(iB G.c0 L').aH b=true):∃n,n∈a/\n∈b:=by
 have e:=xI L L';obtain⟨l1,l2⟩:=xH L L';have one:∀(M:Es),G.aE M->M.take (iJ L L')=L.take (iJ L L')->iJ L L'<=M.length->(fR M=fR (L.take (iJ L L'))\/fR (M.take (fR M-1))=fR (L.take (iJ L L')))->∀x,(iB G.c0 M).aH x=true->lK (iB G.c0 (L.take (iJ L L'))).aS x=true:=by
  intro M hM eM lM hc x hx;have hp:=mT (L.take (iJ L L'));simp only[Va]at hp;by_cases c:fR M=fR (L.take (iJ L L'));·have:=(uS G.c0 (l:=M) (k:=iJ L L') (by omega)).1;rw[eM]at this;rw[this];exact UO hx
  ·have hc:=hc.resolve_left c;have hm:=B_ M (iJ L L');rw[eM]at hm;have hl:=mT M;obtain⟨g1,g2⟩:=(qi M).2 (by omega);have nx:=ok.bu hM g1 g2;rw[show fR M-1+1=fR M by omega,(uS G.c0 (U8 (fR M))).1]at nx;have e1:=(uS G.c0 (l:=M.take (fR M-1)) (k:=fR (L.take (iJ L L'))) (by omega)).1;have e2:=(uS G.c0 (l:=L.take (iJ L L')) (k:=fR (L.take (iJ L L'))) (U8 _)).1;rw[VG,VT (by omega)]at e1 e2;have e3:M.take (fR (L.take (iJ L L')))=L.take (fR (L.take (iJ L L'))):=kJ eM (by omega);rw[e3,e2]at e1;rw[e1];exact UQ nx hx
 exact Mt (Ov (FR ok.aK _)) (one L hL rfl l1 h1 a ha) (one L' u e.symm l2 h2 b hb)
theorem BZ (ok:G.ok){L:Es}{k:Nat}(hk:k<=L.length)(h1:fR L≠fR (L.take k)) (h2:fR (L.take (fR L-1))≠fR (L.take k)):k<fR (L.take (fR L-1))/\fR (L.take (fR L-1))<fR L:=by
 have a1:=B_ L k;have a2:=mT L;have a3:=mT (L.take (fR L-1));simp only[Va]at a3;have a4:=mT (L.take k);simp only[Va]at a4;refine⟨?_,by omega⟩;apply Vb;intro z;have hmono:fR (L.take k)<=fR (L.take (fR L-1)):=by
  by_cases c:k<=fR L-1
  ·have:=B_ (L.take (fR L-1)) k;rw[VG,VT c]at this;exact this
  ·exfalso;have e:=(uS (⟨[],[],[]⟩:fq) (l:=L) (k:=k) (by omega)).2;exact h1 e.symm
 have hlt:0<fR (L.take (fR L-1)):=by omega
 obtain⟨g1,g2⟩:=(qi (L.take (fR L-1))).2 hlt;rw[Wm]at g2;have g3:fR (L.take (fR L-1))-1<(L.take k).length:=by simp only[Va];omega
 have g4:=B7 g3 (by rw[Wm];exact g2);omega
theorem gx.ok.aS (ok:G.ok)(bb:Bool)(t':Int) (E:∀s r,G.aA s=some r->(s<t'\/(bb=true/\s=t'))->∀c∈G.aD,c.t<s->c.l.take c.n<+:r.l0) (id:Int) (L':Es) (w:G.aK bb t' id L'):∀c∈G.aD,c.t<t'->c.l.take c.n<+:L':=by
 suffices hh:∀b a,G.aD=a++b->∀c∈b,c.t<t'->c.l.take c.n<+:L' from hh G.aD [] rfl
 intro b
 induction b with
 | nil=>intro a _ c hc;cases hc
 | cons c b ihb=>
  intro a ea c' a2 hlt
  have C:=ihb (a++[c]) (by rw[ea];simp)
  by_cases U:c'∈b
  ·exact C c' U hlt
  obtain rfl:c'=c:=(VP.1 a2).resolve_right U
  have I:c'∈G.aD:=by rw[ea];simp
  obtain⟨r,l1,l2,l3,l4,Q,q1,q2⟩:=ok.aC c' I
  obtain⟨r1,r2,r3,r4,r5,r6⟩:=ok.aA _ r l1
  have fL:G.aE c'.l:=by
   have:c'.l=r.l.take c'.l.length:=by obtain⟨z,hz⟩:=l2;rw[<-hz];simp
   rw[this];exact r5.aC _
  have W:r.l0<+:c'.l:=WE r2 l2 (by omega)
  apply Vb
  intro no
  have lc:=xI c'.l L'
  obtain⟨k1,k2⟩:=xH c'.l L'
  have A:fR c'.l=fR (c'.l.take (iJ c'.l L'))\/fR (c'.l.take (fR c'.l-1))=fR (c'.l.take (iJ c'.l L')):=by
   apply Vb
   intro z
   rw[not_or]at z
   obtain⟨z1,z2⟩:=BZ ok k1 z.1 z.2
   obtain⟨g1,g2⟩:=(qi (c'.l.take (fR c'.l-1))).2 (by omega)
   rw[Wm]at g2
   simp only[Va]at g1
   obtain⟨d,d1,d2,d3,d4⟩:=ok.aO a c' b ea _ (by omega) g2 (by omega)
   rw[show fR (c'.l.take (fR c'.l-1))-1+1=fR (c'.l.take (fR c'.l-1)) by omega]at d2 d4
   have pd:=C d d1 (by omega)
   obtain⟨rd,m1,m2,m3,m4,-⟩:=ok.aC d (by rw[ea];simp[d1])
   have e1:=iX pd (n:=fR (c'.l.take (fR c'.l-1))) (by simp only[Va];omega)
   rw[VG,VT d2,d4]at e1
   have:=vj e1.symm (by have:=mT c'.l;omega)
   omega
  have B:fR L'=fR (c'.l.take (iJ c'.l L'))\/fR (L'.take (fR L'-1))=fR (c'.l.take (iJ c'.l L')):=by
   apply Vb
   intro z
   rw[lc,not_or]at z
   obtain⟨z1,z2⟩:=BZ ok k2 z.1 z.2
   have hl:=mT L'
   obtain⟨g1,g2⟩:=(qi L').2 (by omega)
   obtain⟨rs,s1,s2,s3⟩:=w.aA _ g1
   have M:=w.lt _ (Vx g1)
   have hr:=oX s2 (by omega)
   have e:=mh s2 (i:=fR L'-1) (by omega)
   rw[U0 g1,U0 (by omega)]at e
   injection e with e
   have cf:=(ok.aD _ rs s1 (fR L'-1) (by omega) (e▸g2) s3).2
   rw[<-kJ s2 (WQ _)]at cf
   obtain⟨d,d1,d2,d3,d4⟩:=cf.resolve_left (by omega)
   have d5:d.l.take (fR (L'.take (fR L'-1)))=L'.take (fR (L'.take (fR L'-1))):=d4.trans (kJ s2 (by omega)).symm
   obtain⟨rd,m1,m2,m3,m4,-⟩:=ok.aC d d1
   have a1:fR (L'.take (fR L'-1))<=L'.length:=by omega
   have u:c'.l.take (fR (L'.take (fR L'-1)))=L'.take (fR (L'.take (fR L'-1)))->False:=λe1=>by
    have O:fR (L'.take (fR L'-1))<=c'.l.length:=oX e1.symm a1
    have:=vj e1 O
    omega
   by_cases o1:d.t<c'.t
   ·have pd:=(E _ r l1 (.inl hlt) d d1 o1).trans W
    have e1:=iX pd (n:=fR (L'.take (fR L'-1))) (by simp only[Va];omega)
    rw[VG,VT d2,d5]at e1
    exact u e1
   ·by_cases o2:d.t=c'.t
    ·rw[o2,l1]at m1
     injection m1 with m1
     subst m1
     by_cases o3:fR (L'.take (fR L'-1))<=c'.l.length
     ·have e1:=iX l2 o3
      have e2:=iX m2 (n:=fR (L'.take (fR L'-1))) (by omega)
      exact u (by rw[<-e1,e2,d5])
     ·refine no ?_
      have e2:=iX m2 (n:=fR (L'.take (fR L'-1))) (by omega)
      have e3:=iX l2 (n:=c'.n) l4
      refine Dr ?_
      rw[Va,VT l4,<-e3]
      exact (kJ (e2.trans d5) (by omega)).symm
    ·have pd:=E _ rd m1 (.inl (by omega)) c' I (by omega)
     have hn:(c'.l.take c'.n).length=c'.n:=by simp only[Va];omega
     have O:=pd.length_le
     rw[hn]at O
     have e1:=iX ((pd.trans (ok.aA _ rd m1).2.1)) (n:=c'.n) (by omega)
     rw[VG,W6]at e1
     have e2:=iX m2 (n:=c'.n) (by omega)
     by_cases o3:fR (L'.take (fR L'-1))<=c'.n
     ·exact u ((kJ (e1.symm.trans e2) o3).trans d5)
     ·refine no ?_
      refine Dr ?_
      rw[hn,<-kJ d5 (show c'.n<=_ by omega),<-e2,e1]
  obtain⟨Q',q3,q4⟩:=w.aC
  obtain⟨v,v1,v2⟩:=ok.aT fL w.aA A B q1 q3
  have ak:=q2 v v1
  obtain⟨g,g1,g2,g3,g4⟩:=q4 v v2
  obtain⟨f1,f2⟩:=ok.aH _ _ _ g1
  have e3:=iX l2 (n:=c'.n) l4
  have has:c'.l.take c'.n<+:g.aA:=by
   rw[<-e3]
   rcases ok.aL _ _ _ _ _ _ ak g1 hlt l1 with h | ⟨s,r',h1,h2,h3,h4⟩
   ·exact h
   ·exfalso
    rw[e3]at h4
    exact h4 (E s r' h3 (h2.imp (λz=>z) (λz=>⟨g3 z.1,z.2⟩)) c' I h1)
  have hn:(c'.l.take c'.n).length=c'.n:=by simp only[Va];omega
  have gl:=has.length_le
  rw[hn]at gl
  have tt:c'.t<=iH g.aA:=by
   have e1:=iX has (n:=c'.n) (by omega)
   rw[VG,W6,<-e3]at e1
   have e2:=mh e1 (i:=c'.n-1) (by omega)
   rw[U0 (by omega),U0 (by have:=l2.length_le;omega)]at e2
   injection e2 with e2
   have e4:=r4 (c'.n-1) (by have:=l2.length_le;omega) (by omega)
   have:=RE f2 (i:=c'.n-1) (by omega)
   rw[e2,e4]at this
   exact this
  have Z:0<L'.length:=by
   apply Vb
   intro z
   have:L'=[]:=U7 (by omega)
   subst this
   unfold rL at g4
   have:iH ([]:Es)=0:=rfl
   rw[this]at g4
   have:=r1
   omega
  obtain⟨rs,s1,s2,s3⟩:=w.aA (L'.length-1) (by omega)
  have M:=w.lt _ (Vx (show L'.length-1<L'.length by omega))
  rw[<-rH Z]at s1 M
  rw[show L'.length-1+1=L'.length by omega,VB]at s2
  by_cases o:iH L'=iH g.aA
  ·have gl':g.aA.length<=L'.length:=by
    unfold rL at g4
    omega
   obtain⟨rg,t1,t2,t3⟩:=f1 (g.aA.length-1) (by omega)
   rw[<-rH (by omega),<-o,s1]at t1
   injection t1 with t1
   subst t1
   rw[show g.aA.length-1+1=g.aA.length by omega,VB]at t2
   refine no (has.trans ?_)
   rw[t2,s2]
   exact List.take_prefix_take_left (by omega)
  ·have o':iH g.aA<iH L':=by unfold rL at g4;omega
   refine no ((E _ rs s1 (.inl M) c' I (by omega)).trans ?_)
   refine WE (ok.aA _ rs s1).2.1 ?_ (by omega)
   rw[s2];exact WH _ _
theorem gx.ok.aR (ok:G.ok): ∀(N:Nat)(t':Int),t'<=N->∀r,G.aA t'=some r->∀c∈G.aD,c.t<t'->c.l.take c.n<+:r.l0:=by
 intro N
 induction N with
 | zero=>intro t' ht r hr;have:=(ok.aA _ r hr).1;omega
 | succ N ih=>
  intro t' ht r hr
  refine ok.aS false t' (λs r' h1 h2=>ih s (by rcases h2 with h | ⟨h,-⟩;omega;cases h) r' h1) r.id r.l0 (ok.aA t' r hr).2.2.2.2.2
theorem gx.ok.aY (ok:G.ok){t:Int}{r:mq}(hr:G.aA t=some r){c:vS}(hc:c∈G.aD)(h:c.t<t):c.l.take c.n<+:r.l0:=
 ok.aR t.toNat t (by omega) r hr c hc h
theorem gx.ok.aZ (ok:G.ok){b:Bool}{t id:Int}{L:Es}(h:G.aK b t id L){c:vS}(hc:c∈G.aD)(hlt:c.t<t):c.l.take c.n<+:L:=
 ok.aS b t (λs r h1 _=>ok.aR s.toNat s (by omega) r h1) id L h c hc hlt
theorem gx.ok.bw (ok:G.ok){b b':Bool}{t:Int}{id u:Int}{L L':Es}(h:G.aK b t id L)(h':G.aK b' t u L'):id=u:=by
 have all:∀M b j,G.aK b t j M->∀c∈G.aD,c.t<t->c.l.take c.n<+:M:=λM b j hM c hc hlt=>ok.aZ hM hc hlt
 have lc:=xI L L'
 obtain⟨k1,k2⟩:=xH L L'
 have side:∀(M M':Es)(b b':Bool)(j j':Int),G.aK b t j M->G.aK b' t j' M'->fR M=fR (M.take (iJ L L'))\/fR (M.take (fR M-1))=fR (M.take (iJ L L'))\/¬(iJ L L'<=M.length/\∀n,n<=M.length->M.take n=M'.take n->n<=iJ L L'):=by
  intro M M' b b' j j' hM E
  apply Vb
  intro z
  rw[not_or,not_or,Classical.not_not]at z
  obtain⟨z0,C,z3,z4⟩:=z
  obtain⟨z1,z2⟩:=BZ ok z3 z0 C
  have hl:=mT M
  obtain⟨g1,g2⟩:=(qi M).2 (by omega)
  obtain⟨rs,s1,s2,s3⟩:=hM.aA _ g1
  have slt:=hM.lt _ (Vx g1)
  have hr:=oX s2 (by omega)
  have e:=mh s2 (i:=fR M-1) (by omega)
  rw[U0 g1,U0 (by omega)]at e
  injection e with e
  have cf:=(ok.aD _ rs s1 (fR M-1) (by omega) (e▸g2) s3).2
  rw[<-kJ s2 (WQ _)]at cf
  obtain⟨d,d1,d2,d3,d4⟩:=cf.resolve_left (by omega)
  have d5:d.l.take (fR (M.take (fR M-1)))=M.take (fR (M.take (fR M-1))):=d4.trans (kJ s2 (by omega)).symm
  obtain⟨rd,m1,m2,m3,m4,-⟩:=ok.aC d d1
  have pd:=all M' b' j' E d d1 (by omega)
  have e1:=iX pd (n:=fR (M.take (fR M-1))) (by simp only[Va];omega)
  rw[VG,VT d2,d5]at e1
  have:=z4 _ (by omega) e1.symm
  omega
 obtain⟨Q,q1,q2⟩:=h.aC
 obtain⟨Q',q3,q4⟩:=h'.aC
 have A:=side L L' b b' id u h h'
 have B:=side L' L b' b u id h' h
 have m:∃n,n∈Q/\n∈Q':=by
  refine ok.aT h.aA h'.aA ?_ ?_ q1 q3
  ·rcases A with A | A | A
   ·exact .inl A
   ·exact .inr A
   ·exact absurd ⟨k1,λn hn e=>vj e hn⟩ A
  ·rw[lc]
   rcases B with B | B | B
   ·exact .inl B
   ·exact .inr B
   ·exact absurd ⟨k2,λn hn e=>vj e.symm (oX e hn)⟩ B
 obtain⟨v,v1,v2⟩:=m
 obtain⟨w,w1,w2,-⟩:=q2 v v1
 obtain⟨w',w3,w4,-⟩:=q4 v v2
 rw[w1]at w3
 injection w3 with w3
 subst w3
 rw[<-w2,w4]
end
def gA (D:Es)(l:fA):Es:=D.take l.aA.toNat++l.es
abbrev gn (D:Es)(r:fj):Es:=gA D r.aA.aA
structure fA.on (D:Es)(l:fA):Prop where
 aA:0<=l.aA/\l.aA<=D.length
 aD:l.aD=iH (D.take l.aA.toNat)
section
variable {D:Es} {l:fA}
theorem fA.on.aH (h:l.on D):((gA D l).length:Int)=l.aC:=by obtain⟨⟨h1,h2⟩,-⟩:=h;unfold gA fA.aC;simp only[U1,Va];omega
theorem fA.on.aC (h:l.on D):(D.take l.aA.toNat).length=l.aA.toNat:=by obtain⟨⟨h1,h2⟩,-⟩:=h;simp only[Va];omega
theorem fA.on.aF (h:l.on D){n:Nat}(hn:n<=l.aA.toNat):(gA D l).take n=D.take n:=by unfold gA;rw[Vz (by rw[h.aC];omega),VG,VT hn]
theorem fA.on.up (h:l.on D){D':Es}(hd:D<+:D'):l.on D'/\gA D' l=gA D l:=by have e:D'.take l.aA.toNat=D.take l.aA.toNat:=iX hd (by have:=h.aA;omega);refine⟨⟨⟨h.aA.1,by have:=h.aA.2;have:=hd.length_le;omega⟩,by rw[e];exact h.aD⟩,?_⟩;unfold gA;rw[e]
theorem rI {l:Es}{n:Nat}(h0:0<n)(hn:n<=l.length):iH (l.take n)=(l[n-1]'(by omega)).aA:=by rw[rH (by simp only[Va];omega)];simp only[Va,VT hn,Wm]
theorem fA.on.aJ (h:l.on D){i:Nat}(hi:l.aA.toNat<=i):(gA D l)[i]?=l.es[i-l.aA.toNat]?:=by unfold gA;rw[Vp (by rw[h.aC];exact hi),h.aC]
theorem fA.on.aE (h:l.on D){i:Int}(hi:l.aF i=true):l.aH i=iH ((gA D l).take i.toNat):=by
 have hb:=h.aA;have hl:=h.aH;unfold fA.aF at hi;simp only[Vq,VD]at hi;unfold fA.aH;rw[U4 (by unfold fA.aF;simp only[Vq,VD];exact hi)];by_cases c:i=l.aA;·rw[U4 c,c,h.aF (U8 _)];exact h.aD
 ·rw[U6 c];have h1:i.toNat<=(gA D l).length:=by omega
  rw[rI (by omega) h1];have e:=h.aJ (i:=i.toNat-1) (by omega);rw[show i.toNat-1-l.aA.toNat=(i-l.aA-1).toNat by omega,U0 (by omega)]at e;rw[<-e]
theorem fA.on.aG (h:l.on D):l.aL=iH (gA D l):=by
 unfold fA.aL;by_cases c:l.es=[];·rw[c];simp only[Ve,List.getElem?_nil];unfold gA;rw[c,VY];exact h.aD
 ·have h1:0<l.es.length:=W9.2 c;have e:iH (gA D l)=iH l.es:=by
   unfold gA iH;rw[List.getLast?_append];cases e2:l.es.getLast? with
   | none=>simp at e2;exact absurd e2 c
   | some e=>simp
  rw[e,rH h1,U0 (by omega)]
theorem fA.on.aI (h:l.on D){from_ most:Int}(h1:l.aA<from_)(h2:1<=most):l.aJ from_ most=((gA D l).drop (from_-1).toNat).take most.toNat:=by
 have hl:=h.aH;have hb:=h.aA;unfold fA.aJ;by_cases c:l.aC<from_;·rw[U4 (.inr (.inl c)),WT (by omega)];simp
 ·rw[U6 (by omega)];congr 1;unfold gA;have e0:(D.take l.aA.toNat).drop (from_-1).toNat=[]:=WT (by rw[h.aC];omega);rw[List.drop_append,e0,h.aC,Wd];congr 1;omega
end
structure je (k:Int)(G G':gx):Prop where
 c0:G'.c0=G.c0
 aA:∀t r,G.aA t=some r->∃l',G'.aA t=some ⟨r.id,r.l0,l'⟩/\r.l<+:l'/\(r.id≠k->l'=r.l)
 aJ:∀t r',G'.aA t=some r'->G.aA t=none->r'.id=k
 aC:∀t v w,G.aC t v=some w->G'.aC t v=some w
 aL:∀t v,v≠k->G'.aC t v=G.aC t v
 aH:∀t v w,G.aG t v=some w->G'.aG t v=some w
 aK:∀t v,v≠k->G'.aG t v=G.aG t v
 aF:∀t v n,G.aF t v n->G'.aF t v n
 aG:∀t v n,v≠k->G'.aF t v n->G.aF t v n
 aI:∀c∈G.aD,c∈G'.aD
 aE:G.aH<=G'.aH
theorem je.aD (k:Int)(G:gx):je k G G:=
 ⟨rfl,λ_ r h=>⟨r.l,h,Wb _,λ_=>rfl⟩,λ_ _ h1 h2=>(by rw[h1]at h2;cases h2),λ_ _ _ h=>h,λ_ _ _=>rfl,λ_ _ _ h=>h,λ_ _ _=>rfl,λ_ _ _ h=>h,λ_ _ _ _ h=>h,λ_ h=>h,Vi _⟩
theorem je.aM {k:Int}{G G1 G2:gx}(a:je k G G1)(b:je k G1 G2):je k G G2:=by
 refine⟨b.c0.trans a.c0,λt r h=>?_,λt r' h1 h2=>?_,λt v w h=>b.aC t v w (a.aC t v w h),λt v h=>(b.aL t v h).trans (a.aL t v h),λt v w h=>b.aH t v w (a.aH t v w h),λt v h=>(b.aK t v h).trans (a.aK t v h),
  λt v n h=>b.aF t v n (a.aF t v n h),λt v n h h'=>a.aG t v n h (b.aG t v n h h'),λc h=>b.aI c (a.aI c h),W7 a.aE b.aE⟩
 ·obtain⟨l1,h1,h2,h3⟩:=a.aA t r h;obtain⟨l2,h4,h5,h6⟩:=b.aA t _ h1;exact⟨l2,h4,h2.trans h5,λz=>(h6 z).trans (h3 z)⟩
 ·cases e:G1.aA t with
  | none=>exact b.aJ t r' h1 e
  | some r1=>obtain⟨l2,h4,h5,h6⟩:=b.aA t r1 e;rw[h1]at h4;injection h4 with h4;rw[h4];exact a.aJ t r1 e h2
theorem gx.aE.aA {k:Int}{G G':gx}{L:Es}(h:G.aE L)(g:je k G G'):G'.aE L:=by intro i hi;obtain⟨r,h1,h2,h3⟩:=h i hi;obtain⟨l',g1,g2,-⟩:=g.aA _ r h1;refine⟨_,g1,?_,h3⟩;rw[h2,iX g2 (oX h2 (by omega))]
def gx.aI (G:gx)(t:Int)(n:Int)(L:Es):Prop:=n<=0\/n<=L.length/\∃c∈G.aD,n<=c.n/\c.t<=t/\L.take n.toNat=c.l.take n.toNat
theorem gx.aI.aC {k:Int}{G G':gx}{t n:Int}{L:Es}(h:G.aI t n L)(g:je k G G'):G'.aI t n L:=h.imp (λz=>z) λ⟨hl,c,h1,h2⟩=>⟨hl,c,g.aI c h1,h2⟩
theorem gx.aI.aA {G:gx}{t t' n n':Int}{L:Es}(h:G.aI t n L)(ht:t<=t')(hn:n'<=n):G.aI t' n' L:=by
 by_cases c:n'<=0
 ·exact .inl c
 ·rcases h with h | ⟨hl,c',h1,h2,h3,h4⟩;·omega
  ·exact .inr ⟨by omega,c',h1,by omega,by omega,kJ h4 (by omega)⟩
theorem gx.aI.of {G:gx}{t n:Int}{L L':Es}(h:G.aI t n L)(e:L'.take n.toNat=L.take n.toNat):G.aI t n L':=h.imp (λz=>z) λ⟨hl,c,h1,h2,h3,h4⟩=>⟨by have:=oX e.symm (by omega);omega,c,h1,h2,h3,e.trans h4⟩
theorem gx.ok.aX {G:gx}(ok:G.ok){c:vS}(hc:c∈G.aD){t:Int}{x:mq}(hx:G.aA t=some x)(h:c.t<=t):c.l.take c.n<+:x.l:=by
 by_cases e:c.t=t
 ·obtain⟨r,l1,l2,-⟩:=ok.aC c hc
  rw[e,hx]at l1
  injection l1 with l1
  subst l1
  exact (WH _ _).trans l2
 ·exact (ok.aY hx hc (by omega)).trans (ok.aA t x hx).2.1
theorem gx.ok.aJ {G:gx}(ok:G.ok){t n:Int}{L:Es}(h:G.aI t n L){x:mq}(hx:G.aA t=some x):L.take n.toNat=x.l.take n.toNat/\n.toNat<=x.l.length:=by
 rcases h with h | ⟨hl,c,h1,h2,h3,h4⟩
 ·rw[show n.toNat=0 by omega];simp
 ·have p:=ok.aX h1 hx h3
  obtain⟨r,l1,l2,l3,l4,-⟩:=ok.aC c h1
  have hn:n.toNat<=(c.l.take c.n).length:=by simp only[Va];omega
  have e:=iX p hn
  rw[VG,VT (by omega)]at e
  exact⟨by rw[h4,e],Vh hn p.length_le⟩
theorem gx.ok.aQ {G:gx}(ok:G.ok){t t' n n':Int}{L L':Es}(h:G.aI t n L)(h':G.aI t' n' L')(hn:n<=n'):L.take n.toNat=L'.take n.toNat:=by
 rcases id h with z | ⟨hl,c,h1,h2,h3,h4⟩
 ·rw[show n.toNat=0 by omega];simp
 ·rcases id h' with z | ⟨hl',c',g1,g2,g3,g4⟩
  ·rw[show n.toNat=0 by omega];simp
  ·have e':L'.take n.toNat=c'.l.take n.toNat:=kJ g4 (by omega)
   rw[h4,e']
   obtain⟨r,l1,l2,l3,l4,-⟩:=ok.aC c h1
   obtain⟨r',m1,m2,m3,m4,-⟩:=ok.aC c' g1
   by_cases o:c.t<=c'.t
   ·have a:=ok.aJ (t:=c'.t) (n:=n) (L:=c.l) (.inr ⟨by omega,c,h1,by omega,o,rfl⟩) m1
    rw[a.1,iX m2 (by omega)]
   ·have a:=ok.aJ (t:=c.t) (n:=n) (L:=c'.l) (.inr ⟨by omega,c',g1,by omega,by omega,rfl⟩) l1
    rw[a.1,iX l2 (by omega)]
structure gE (G:gx)(D:Es)(r:fj):Prop where
 id:(1<=r.id/\r.id<=7)/\r.aA.aC<=G.aH
 on:r.aA.aA.on D
 aC:G.aE (gn D r)
 aG:Glb.me (gn D r)
 le:∀e∈gn D r,e.aA<=r.aA.aC
 aI:r.aA.aD=iB G.c0 (D.take r.aA.aA.aA.toNat)
 aH:gF r.aA.aG/\r.aA.aG.length<=1
 aD:r.aA.aA.aA<=r.aF/\r.aF<=r.aE/\r.aE<=r.aA.aA.aC
 aE:(gn D r).take r.aF.toNat=D.take r.aF.toNat/\r.aF<=D.length
 aA:G.aI r.aA.aC r.aE (gn D r)
 aF:0<=r.aA.aC
 aJ:∀t w,G.aC t r.id=some w->t<=r.aA.aC/\(t=r.aA.aC->r.aA.aF=w.aC/\w.aC≠0)
 aP:r.aA.aF≠0->∃w,G.aC r.aA.aC r.id=some w/\w.aC=r.aA.aF
 aL:∀t L,G.aG t r.id=some L->t<=r.aA.aC
 aM:∀t x,G.aA t=some x->x.id=r.id->t<=r.aA.aC
 aK:∀t n,G.aF t r.id n->t<=r.aA.aC/\∀x,G.aA t=some x->x.l.take n<+:gn D r\/∃s y,t<s/\s<=r.aA.aC/\G.aA s=some y/\¬x.l.take n<+:y.l0
 aR:r.aI=0\/r.aI=1\/r.aI=2
 aS:r.aI=1->(0<r.aA.aC/\r.aA.aF≠0)/\G.aG r.aA.aC r.id=some (gn D r)/\(∀v∈r.aH,∃w,G.aC r.aA.aC v=some w/\w.aC=r.id)/\∀x,G.aA r.aA.aC=some x->x.id≠r.id
 aN:r.aI=2->∃l0,G.aA r.aA.aC=some ⟨r.id,l0,gn D r⟩
 aO:∀f∈r.aC,(1<=f.aC/\f.aC<=r.aA.aA.aC+1)/\(0<=f.aD/\f.aD<=r.aA.aA.aC)/\(f.aD=0\/G.aF r.aA.aC f.aE f.aD.toNat)
structure Jv (G:gx)(m:fJ):Prop where
 aA:(1<=m.aC/\m.aC<=7)/\m.aG<=G.aH
 es:m.es.length<=8/\(m.aE≠3->m.es=[])
 aE:gF m.aF/\m.aF.length<=2^16
 aD:0<=m.aH/\m.aH<=m.aG
 aC:3<=m.aE->0<=m.aA/\(m.aA=0\/∃t w,G.aA t=some w/\m.aA<=w.l.length)
structure kD (G:gx)(D:Es)(m:fJ):Prop where
 aA:Jv G m
 aG:m.aE=1->∃L,G.aG m.aG m.aC=some L/\m.aA=L.length/\m.aH=iH L
 aH:m.aE=2->m.ok=true->∃w,G.aC m.aG m.aC=some w/\w.aC=m.to
 aD:m.aE=3->∃x,G.aA m.aG=some x/\0<=m.aA/\m.aA+m.es.length<=x.l.length/\m.aH=iH (x.l.take m.aA.toNat)/\m.es=(x.l.drop m.aA.toNat).take m.es.length/\G.aI m.aG m.aI x.l
 aE:m.aE=4->m.ok=true->0<=m.aA/\(m.aA=0\/G.aF m.aG m.aC m.aA.toNat)
 aF:m.aE=5->∃x,G.aA m.aG=some x/\0<=m.aA/\m.aA<=D.length/\m.aH=iH (D.take m.aA.toNat)/\G.aI m.aG m.aA (D.take m.aA.toNat)/\(iL m.aF).2.2=0/\im (iL m.aF).1=(iB G.c0 (D.take m.aA.toNat),0)/\gF (iL m.aF).2.1/\(iL m.aF).2.1.length<=1
theorem kD.aC {k:Int}{G G':gx}{D D':Es}{m:fJ}(h:kD G D m)(g:je k G G')(hd:D<+:D'):kD G' D' m:=by
 refine⟨⟨⟨h.aA.aA.1,W7 h.aA.aA.2 g.aE⟩,h.aA.es,h.aA.aE,h.aA.aD,λe=>⟨(h.aA.aC e).1,(h.aA.aC e).2.imp (λz=>z) λ⟨t,w,w1,w2⟩=>let⟨l',g1,g2,_⟩:=g.aA t w w1;⟨t,_,g1,by have:=g2.length_le;show m.aA<=(l'.length:Int);omega⟩⟩⟩,λe=>?_,λe o=>?_,λe=>?_,λe o=>?_,λe=>?_⟩;·obtain⟨L,h1,h2⟩:=h.aG e;exact⟨L,g.aH _ _ _ h1,h2⟩
 ·obtain⟨w,h1,h2⟩:=h.aH e o;exact⟨w,g.aC _ _ _ h1,h2⟩
 ·obtain⟨x,h1,h2,h3,h4,h5,h6⟩:=h.aD e;obtain⟨l',g1,g2,-⟩:=g.aA _ x h1;have e1:l'.take m.aA.toNat=x.l.take m.aA.toNat:=iX g2 (by omega);have e2:(l'.drop m.aA.toNat).take m.es.length=(x.l.drop m.aA.toNat).take m.es.length:=by have:=iX g2 (n:=m.aA.toNat+m.es.length) (by omega);rw[List.take_drop,List.take_drop,this]
  refine⟨_,g1,h2,by have:=g2.length_le;show m.aA+_<=(l'.length:Int);omega,by show m.aH=iH (l'.take _);rw[e1];exact h4,by show m.es=(l'.drop _).take _;rw[e2];exact h5,?_⟩;show G'.aI _ _ l';rcases h6 with z | ⟨hl,c,c1,c2,c3,c4⟩;·exact .inl z
  ·exact .inr ⟨by have:=g2.length_le;omega,c,g.aI c c1,c2,c3,(iX g2 (by omega)).trans c4⟩
 ·obtain⟨h1,h2⟩:=h.aE e o;exact⟨h1,h2.imp (λz=>z) (g.aF _ _ _)⟩
 ·obtain⟨x,h1,h2,h3,h4,h5,h6,h7⟩:=h.aF e;obtain⟨l',g1,g2,-⟩:=g.aA _ x h1;have e1:D'.take m.aA.toNat=D.take m.aA.toNat:=iX hd (by omega);rw[g.c0,e1];exact⟨_,g1,h2,by have:=hd.length_le;omega,h4,h5.aC g,h6,h7⟩
section
variable {G:gx} {D:Es} {r:fj}
theorem gE.bA {k:Int}{G':gx}{D':Es}(ok:G.ok)(h:gE G D r)(g:je k G G')(hd:D<+:D')(hk:r.id≠k):gE G' D' r:=by
 obtain⟨on',ef⟩:=h.on.up hd
 have ef:gn D' r=gn D r:=ef
 have eb:D'.take r.aA.aA.aA.toNat=D.take r.aA.aA.aA.toNat:=iX hd (by have:=h.on.aA;omega)
 have ea:D'.take r.aF.toNat=D.take r.aF.toNat:=iX hd (by have:=h.aE.2;omega)
 refine⟨⟨h.id.1,W7 h.id.2 g.aE⟩,on',by rw[ef];exact h.aC.aA g,by rw[ef];exact h.aG,by rw[ef];exact h.le,by rw[eb,g.c0];exact h.aI,h.aH,h.aD,⟨by rw[ef,ea];exact h.aE.1,by have:=h.aE.2;have:=hd.length_le;omega⟩,by rw[ef];exact h.aA.aC g,h.aF,λt w e=>h.aJ t w (by rwa [g.aL t _ hk]at e),λe=>?_,λt L e=>h.aL t L (by rwa [g.aK t _ hk]at e),λt x e hx=>?_,λt n e=>?_,h.aR,λe=>?_,λe=>?_,λf hf=>?_⟩
 ·obtain⟨w,h1,h2⟩:=h.aP e;exact⟨w,g.aC _ _ _ h1,h2⟩
 ·cases e2:G.aA t with
  | none=>exact absurd (g.aJ t x e e2) (by rw[hx];exact hk)
  | some y=>
   obtain⟨l',g1,g2,g3⟩:=g.aA t y e2
   rw[e]at g1
   injection g1 with g1
   exact h.aM t y e2 (by rw[g1]at hx;exact hx)
 ·obtain⟨h1,h2⟩:=h.aK t n (g.aG t _ n hk e)
  refine⟨h1,λx hx=>?_⟩
  obtain⟨y,y1,y2⟩:=ok.aE t _ n (g.aG t _ n hk e)
  obtain⟨l',g1,g2,-⟩:=g.aA t y y1
  rw[hx]at g1
  injection g1 with g1
  have e3:x.l.take n=y.l.take n:=by rw[g1];exact iX g2 y2
  rw[e3,ef]
  refine (h2 y y1).imp (λz=>z) λ⟨s,z,z1,z2,z3,z4⟩=>?_
  obtain⟨l'',g4,-,-⟩:=g.aA s z z3
  exact⟨s,_,z1,z2,g4,z4⟩
 ·obtain⟨h0,h1,h2,h3⟩:=h.aS e
  refine⟨h0,by rw[ef];exact g.aH _ _ _ h1,λv hv=>?_,λx hx=>?_⟩
  ·obtain⟨w,w1,w2⟩:=h2 v hv;exact⟨w,g.aC _ _ _ w1,w2⟩
  ·cases e2:G.aA r.aA.aC with
   | none=>rw[g.aJ _ x hx e2];exact λz=>hk z.symm
   | some y=>
    obtain⟨l',g1,-,-⟩:=g.aA _ y e2
    rw[hx]at g1
    injection g1 with g1
    rw[g1]
    exact h3 y e2
 ·obtain⟨l0,h1⟩:=h.aN e
  obtain⟨l',g1,-,g3⟩:=g.aA _ _ h1
  have:=g3 hk
  simp only at this g1
  rw[this]at g1
  exact⟨l0,by rw[ef];exact g1⟩
 ·obtain⟨h1,h2,h3⟩:=h.aO f hf;exact⟨h1,h2,h3.imp (λz=>z) (g.aF _ _ _)⟩
theorem gE.bB {D':Es}(h:gE G D r)(hd:D<+:D'):gE G D' r:=by obtain⟨u,ef⟩:=h.on.up hd;have ef:gn D' r=gn D r:=ef;have eb:D'.take r.aA.aA.aA.toNat=D.take r.aA.aA.aA.toNat:=iX hd (by have:=h.on.aA;omega);have ea:D'.take r.aF.toNat=D.take r.aF.toNat:=iX hd (by have:=h.aE.2;omega);exact⟨h.id,u,by rw[ef];exact h.aC,by rw[ef];exact h.aG,by rw[ef];exact h.le,by rw[eb];exact h.aI,h.aH,h.aD,⟨by rw[ef,ea];exact h.aE.1,by have:=h.aE.2;have:=hd.length_le;omega⟩,by rw[ef];exact h.aA,h.aF,h.aJ,h.aP,h.aL,h.aM,λt n e=>by rw[ef];exact h.aK t n e,h.aR,λe=>by rw[ef];exact h.aS e,λe=>by rw[ef];exact h.aN e,h.aO⟩
theorem gE.of {r':fj}(h:gE G D r)(e1:r'.id=r.id)(e2:r'.aA=r.aA)(e3:r'.aF=r.aF)(e4:r'.aE=r.aE)(e5:r'.aI=r.aI)(e6:r'.aH=r.aH)(e7:r'.aC=r.aC):gE G D r':=by obtain⟨id,hard,commit,applied,role,leader,elapsed,timeout,granted,flows,round,beat⟩:=r;obtain⟨id',hard',commit',applied',role',leader',elapsed',timeout',granted',flows',round',beat'⟩:=r';simp only at e1 e2 e3 e4 e5 e6 e7;subst e1 e2 e3 e4 e5 e6 e7;exact⟨h.id,h.on,h.aC,h.aG,h.le,h.aI,h.aH,h.aD,h.aE,h.aA,h.aF,h.aJ,h.aP,h.aL,h.aM,h.aK,h.aR,h.aS,h.aN,h.aO⟩
theorem gE.aX (h:gE G D r)(l:Int):gE G D (r.aU l):=
 ⟨h.id,h.on,h.aC,h.aG,h.le,h.aI,h.aH,h.aD,h.aE,h.aA,h.aF,h.aJ,h.aP,h.aL,h.aM,h.aK,.inl rfl,(λe=>by cases e),(λe=>by cases e),(λf hf=>by cases hf)⟩
theorem gE.up (h:gE G D r){t:Int}(ht:r.aA.aC<t)(u:t<=G.aH)(l:Int):gE G D (({r with aA:={r.aA with aC:=t,aF:=0}}:fj).aU l):=
 ⟨⟨h.id.1,u⟩,h.on,h.aC,h.aG,λe he=>by have:=h.le e he;show e.aA<=t;omega,h.aI,h.aH,h.aD,h.aE,h.aA.aA (Int.le_of_lt ht) (Vi _),by show 0<=t;have:=h.aF;omega,
  λt' w e=>⟨by have:=(h.aJ t' w e).1;show t'<=t;omega,λz=>by have:=(h.aJ t' w e).1;have z':t'=t:=z;omega⟩,λe=>absurd rfl e,λt' L e=>by have:=h.aL t' L e;show t'<=t;omega,
  λt' x e hx=>by have:=h.aM t' x e hx;show t'<=t;omega,λt' n e=>⟨by have:=(h.aK t' n e).1;show t'<=t;omega,λx hx=>((h.aK t' n e).2 x hx).imp (λz=>z) λ⟨s,y,y1,y2,y3⟩=>⟨s,y,y1,(by show s<=t;omega),y3⟩⟩,
  .inl rfl,(λe=>by cases e),(λe=>by cases e),(λf hf=>by cases hf)⟩
theorem Hm {x:fF}(u:x.aA.on D)(cf:x.aD=iB G.c0 (D.take x.aA.aA.toNat)):x.of.1=iB G.c0 (gA D x.aA)/\(x.of.2<=x.aA.aA/\fR (gA D x.aA)<=x.aA.aA.toNat\/x.of.2=fR (gA D x.aA)):=by
 have key:∀es:Es,(jR es es.length=none->iB G.c0 (D.take x.aA.aA.toNat++es)=iB G.c0 (D.take x.aA.aA.toNat)/\fR (D.take x.aA.aA.toNat++es)=fR (D.take x.aA.aA.toNat)) /\
   (∀c k,jR es es.length=some (c,k)->iB G.c0 (D.take x.aA.aA.toNat++es)=c/\fR (D.take x.aA.aA.toNat++es)=(D.take x.aA.aA.toNat).length+k+1):=by
  intro es;induction es using xY with
  | h0=>exact⟨λ_=>by simp,λc k e=>by cases e⟩
  | h1 es e ih=>
   rw[Cb,<-Vr,xm,xk];by_cases ce:e.aE;·rw[U4 ce,U4 ce,U4 ce];refine⟨λz=>(by cases z),λc k z=>?_⟩;cases z;exact⟨rfl,by simp⟩
   ·rw[U6 ce,U6 ce,U6 ce];exact ih
 obtain⟨k1,k2⟩:=key x.aA.es;have hb:=u.aA;unfold fF.of fF.aK;cases e:jR x.aA.es x.aA.es.length with
 | none=>
  obtain⟨a,b⟩:=k1 e;refine⟨?_,.inl ⟨Vi _,?_⟩⟩;·show x.aD=iB G.c0 (gA D x.aA);unfold gA;rw[a];exact cf
  ·show fR (gA D x.aA)<=_;unfold gA;rw[b];have:=mT (D.take x.aA.aA.toNat);rw[u.aC]at this;exact this
 | some p=>
  obtain⟨c,k⟩:=p;obtain⟨a,b⟩:=k2 c k e;refine⟨?_,.inr ?_⟩;·show c=iB G.c0 (gA D x.aA);unfold gA;rw[a]
  ·show x.aA.aA+1+k=fR (gA D x.aA);unfold gA;rw[b,u.aC];omega
theorem PD {x:fF}(e:x.aA.on D)(cf:x.aD=iB G.c0 (D.take x.aA.aA.toNat)):x.of.1=iB G.c0 (gA D x.aA):=(Hm e cf).1
theorem gE.aZ (h:gE G D r):r.aA.of.1=iB G.c0 (gn D r)/\(r.aA.of.2<=r.aA.aA.aA/\fR (gn D r)<=r.aA.aA.aA.toNat\/r.aA.of.2=fR (gn D r)):=Hm h.on h.aI
theorem gE.aU (h:gE G D r):r.aM=iB G.c0 (gn D r):=h.aZ.1
theorem gE.aQ (h:gE G D r):((gn D r).length:Int)=r.aA.aA.aC:=h.on.aH
theorem gE.bz (ok:G.ok)(h:gE G D r){c:Int}{L:Es}(hv:r.aA.aF=0)(E:c≠0)(hc:G.aG r.aA.aC c=some L)(hn:rL L (gn D r))(hr:r.aI=0\/r.aI=2):
  ∃G',G'.ok/\je r.id G G'/\(G'.aA=G.aA/\G'.aH=G.aH)/\(∃w,G'.aC r.aA.aC r.id=some w/\w.aC=c)/\gE G' D {r with aA:={r.aA with aF:=c}}:=by
 have no:G.aC r.aA.aC r.id=none:=by
  cases e:G.aC r.aA.aC r.id with
  | none=>rfl
  | some w=>have:=(h.aJ _ w e).2 rfl;omega
 obtain⟨gv,C⟩:∃gv:Int->Int->Option yF,gv=λt v=>if t=r.aA.aC/\v=r.id then some ⟨c,gn D r,(G.aA r.aA.aC).isSome⟩ else G.aC t v:=⟨_,rfl⟩
 have sub:∀t v w,G.aC t v=some w->gv t v=some w:=λt v w e=>by
  rw[C];simp only
  by_cases z:t=r.aA.aC/\v=r.id
  ·rw[z.1,z.2,no]at e;cases e
  ·rw[U6 z];exact e
 have u:∀t v w,gv t v=some w->(t=r.aA.aC/\v=r.id/\w=⟨c,gn D r,(G.aA r.aA.aC).isSome⟩)\/G.aC t v=some w:=λt v w e=>by
  rw[C]at e;simp only at e
  by_cases z:t=r.aA.aC/\v=r.id
  ·rw[U4 z]at e;injection e with e;exact .inl ⟨z.1,z.2,e.symm⟩
  ·rw[U6 z]at e;exact .inr e
 have new:gv r.aA.aC r.id=some ⟨c,gn D r,(G.aA r.aA.aC).isSome⟩:=by rw[C];simp
 refine⟨⟨G.c0,G.aA,gv,G.aG,G.aF,G.aD,G.aH⟩,⟨ok.aK,ok.aG,λt x e=>?_,λt v w e=>?_,ok.aE,ok.aI,λt v n t' w x e1 e2 e3 e4=>?_,λt v w e=>?_,λt v w e hl=>?_,ok.aF,ok.aC,ok.aO,ok.aD⟩,⟨rfl,λt x e=>⟨x.l,e,Wb _,λ_=>rfl⟩,λt x e1 e2=>(by have e1:G.aA t=some x:=e1;rw[e2]at e1;cases e1),sub,λt v hv=>(by show gv t v=_;rw[C];simp[hv]),λ_ _ _ e=>e,λ_ _ _=>rfl,λ_ _ _ e=>e,λ_ _ _ _ e=>e,λ_ e=>e,Vi _⟩,⟨rfl,rfl⟩,⟨_,new,rfl⟩,?_⟩
 ·obtain⟨a1,a2,a3,a4,a5,a6⟩:=ok.aA t x e
  obtain⟨Q,q1,q2⟩:=a6.aC
  exact⟨a1,a2,a3,a4,a5,a6.aA,a6.aD,a6.lt,Q,q1,λv hv=>let⟨w,w1,w2⟩:=q2 v hv;⟨w,sub _ _ _ w1,w2⟩⟩
 ·rcases u t v w e with⟨rfl,rfl,rfl⟩ | e
  ·exact⟨h.aC,h.aG⟩
  ·exact ok.aH t v w e
 ·rcases u t' v w e2 with⟨rfl,rfl,rfl⟩ | e2
  ·refine ((h.aK t n e1).2 x e4).imp (λz=>z) λ⟨s,y,y1,y2,y3,y4⟩=>⟨s,y,y1,?_,y3,y4⟩
   by_cases z:s<r.aA.aC
   ·exact .inl z
   ·have z:s=r.aA.aC:=by omega
    exact .inr ⟨by rw[<-z,y3];rfl,z⟩
  ·exact ok.aL t v n t' w x e1 e2 e3 e4
 ·rcases u t v w e with⟨rfl,rfl,rfl⟩ | e
  ·exact⟨L,hc,hn⟩
  ·exact ok.aM t v w e
 ·rcases u t v w e with⟨rfl,rfl,rfl⟩ | e
  ·exact W5.1 hl
  ·exact ok.aN t v w e hl
 ·refine⟨h.id,h.on,h.aC,h.aG,h.le,h.aI,h.aH,h.aD,h.aE,h.aA,h.aF,λt w e=>?_,λ_=>⟨_,new,rfl⟩,h.aL,h.aM,h.aK,h.aR,λe=>?_,h.aN,h.aO⟩
  ·rcases u t _ w e with⟨rfl,_,rfl⟩ | e
   ·exact⟨Vi _,λ_=>⟨rfl,E⟩⟩
   ·refine⟨(h.aJ t w e).1,λz=>?_⟩
    have z':t=r.aA.aC:=z
    rw[z',no]at e;cases e
  ·have e:r.aI=1:=e
   omega
theorem gE.bH (ok:G.ok)(h:gE G D r)(h0:r.id≠0)(tm el:Int):
  ∃G',G'.ok/\je r.id G G'/\G'.aA=G.aA/\G'.aH<=G.aH+1/\G'.aG (r.aA.aC+1) r.id=some (gn D r)/\gE G' D {r with aA:={r.aA with aC:=r.aA.aC+1,aF:=r.id},aI:=1,aV:=0,aK:=el,aX:=tm,aC:=[],aH:=[r.id]}:=by
 have h00:=h.aF
 have no:G.aC (r.aA.aC+1) r.id=none:=by
  cases e:G.aC (r.aA.aC+1) r.id with
  | none=>rfl
  | some w=>have:=(h.aJ _ w e).1;omega
 have U:G.aG (r.aA.aC+1) r.id=none:=by
  cases e:G.aG (r.aA.aC+1) r.id with
  | none=>rfl
  | some w=>have:=h.aL _ w e;omega
 obtain⟨gv,M⟩:∃gv:Int->Int->Option yF,gv=λt v=>if t=r.aA.aC+1/\v=r.id then some ⟨r.id,gn D r,(G.aA (r.aA.aC+1)).isSome⟩ else G.aC t v:=⟨_,rfl⟩
 obtain⟨cd,O⟩:∃cd:Int->Int->Option Es,cd=λt v=>if t=r.aA.aC+1/\v=r.id then some (gn D r) else G.aG t v:=⟨_,rfl⟩
 have sub:∀t v w,G.aC t v=some w->gv t v=some w:=λt v w e=>by
  rw[M];simp only
  by_cases z:t=r.aA.aC+1/\v=r.id
  ·rw[z.1,z.2,no]at e;cases e
  ·rw[U6 z];exact e
 have C:∀t v w,G.aG t v=some w->cd t v=some w:=λt v w e=>by
  rw[O];simp only
  by_cases z:t=r.aA.aC+1/\v=r.id
  ·rw[z.1,z.2,U]at e;cases e
  ·rw[U6 z];exact e
 have I:∀t v w,gv t v=some w->(t=r.aA.aC+1/\v=r.id/\w=⟨r.id,gn D r,(G.aA (r.aA.aC+1)).isSome⟩)\/G.aC t v=some w:=λt v w e=>by
  rw[M]at e;simp only at e
  by_cases z:t=r.aA.aC+1/\v=r.id
  ·rw[U4 z]at e;injection e with e;exact .inl ⟨z.1,z.2,e.symm⟩
  ·rw[U6 z]at e;exact .inr e
 have E:∀t v w,cd t v=some w->(t=r.aA.aC+1/\v=r.id/\w=gn D r)\/G.aG t v=some w:=λt v w e=>by
  rw[O]at e;simp only at e
  by_cases z:t=r.aA.aC+1/\v=r.id
  ·rw[U4 z]at e;injection e with e;exact .inl ⟨z.1,z.2,e.symm⟩
  ·rw[U6 z]at e;exact .inr e
 have new:gv (r.aA.aC+1) r.id=some ⟨r.id,gn D r,(G.aA (r.aA.aC+1)).isSome⟩:=by rw[M];simp
 have u:cd (r.aA.aC+1) r.id=some (gn D r):=by rw[O];simp
 refine⟨⟨G.c0,G.aA,gv,cd,G.aF,G.aD,max G.aH (r.aA.aC+1)⟩,⟨ok.aK,ok.aG,λt x e=>?_,λt v w e=>?_,ok.aE,ok.aI,λt v n t' w x e1 e2 e3 e4=>?_,λt v w e=>?_,λt v w e hl=>?_,λt v L e=>?_,ok.aC,ok.aO,ok.aD⟩,⟨rfl,λt x e=>⟨x.l,e,Wb _,λ_=>rfl⟩,λt x e1 e2=>(by have e1:G.aA t=some x:=e1;rw[e2]at e1;cases e1),sub,λt v hv=>(by show gv t v=_;rw[M];simp[hv]),C,λt v hv=>(by show cd t v=_;rw[O];simp[hv]),λ_ _ _ e=>e,λ_ _ _ _ e=>e,λ_ e=>e,by show G.aH<=max _ _;omega⟩,rfl,by show max _ _<=_;have:=h.id.2;omega,u,?_⟩
 ·obtain⟨a1,a2,a3,a4,a5,a6⟩:=ok.aA t x e
  obtain⟨Q,q1,q2⟩:=a6.aC
  exact⟨a1,a2,a3,a4,a5,a6.aA,a6.aD,a6.lt,Q,q1,λv hv=>let⟨w,w1,w2⟩:=q2 v hv;⟨w,sub _ _ _ w1,w2⟩⟩
 ·rcases I t v w e with⟨rfl,rfl,rfl⟩ | e
  ·exact⟨h.aC,h.aG⟩
  ·exact ok.aH t v w e
 ·rcases I t' v w e2 with⟨rfl,rfl,rfl⟩ | e2
  ·refine ((h.aK t n e1).2 x e4).imp (λz=>z) λ⟨s,y,y1,y2,y3,y4⟩=>⟨s,y,y1,.inl (by omega),y3,y4⟩
  ·exact ok.aL t v n t' w x e1 e2 e3 e4
 ·rcases I t v w e with⟨rfl,rfl,rfl⟩ | e
  ·exact⟨_,u,.inr ⟨rfl,U8 _⟩⟩
  ·obtain⟨L,l1,l2⟩:=ok.aM t v w e;exact⟨L,C _ _ _ l1,l2⟩
 ·rcases I t v w e with⟨rfl,rfl,rfl⟩ | e
  ·exact W5.1 hl
  ·exact ok.aN t v w e hl
 ·rcases E t v L e with⟨rfl,rfl,rfl⟩ | e
  ·exact⟨h.aC,h.aG,λe he=>by have:=h.le e he;omega⟩
  ·exact ok.aF t v L e
 ·refine⟨⟨h.id.1,by show r.aA.aC+1<=max _ _;omega⟩,h.on,h.aC,h.aG,λe he=>by have:=h.le e he;show e.aA<=r.aA.aC+1;omega,h.aI,h.aH,h.aD,h.aE,h.aA.aA (by show r.aA.aC<=r.aA.aC+1;omega) (Vi _),by show 0<=r.aA.aC+1;omega,λt w e=>?_,λ_=>⟨_,new,rfl⟩,λt L e=>?_,λt x e hx=>?_,λt n e=>?_,.inr (.inl rfl),λ_=>⟨⟨by show 0<r.aA.aC+1;omega,h0⟩,u,λv hv=>?_,λx hx=>?_⟩,(λe=>by cases e),(λf hf=>by cases hf)⟩
  ·rcases I t _ w e with⟨rfl,_,rfl⟩ | e
   ·exact⟨Vi _,λ_=>⟨rfl,h0⟩⟩
   ·have:=(h.aJ t w e).1
    exact⟨by show t<=r.aA.aC+1;omega,λz=>by have z':t=r.aA.aC+1:=z;omega⟩
  ·rcases E t _ L e with⟨rfl,_,rfl⟩ | e
   ·exact Vi _
   ·have:=h.aL t L e;show t<=r.aA.aC+1;omega
  ·have:t<=r.aA.aC:=h.aM t x e hx;show t<=r.aA.aC+1;omega
  ·obtain⟨a,b⟩:=h.aK t n e
   exact⟨by show t<=r.aA.aC+1;omega,λx hx=>(b x hx).imp (λz=>z) λ⟨s,y,y1,y2,y3⟩=>⟨s,y,y1,(by show s<=r.aA.aC+1;omega),y3⟩⟩
  ·obtain rfl:v=r.id:=by simpa using hv
   exact⟨_,new,rfl⟩
  ·intro z
   have:r.aA.aC+1<=r.aA.aC:=h.aM _ x hx z
   omega
end
section
variable {G:gx} {D:Es} {r:fj}
theorem gx.ok.bz {G:gx}(ok:G.ok){L:Es}(h:G.aE L){i:Nat}(hi:i<L.length):L[i].aF:=by
 obtain⟨x,h1,h2,-⟩:=h i hi
 have e:=mh h2 (i:=i) (by omega)
 have hl:=oX h2 (by omega)
 rw[U0 hi,U0 (by omega)]at e
 injection e with e
 rw[e]
 exact ok.aG _ x h1 _ (Vx _)
theorem gx.aE.aE {G:gx}{L:Es}{e:fU}(h:G.aE L){x:mq}(h1:G.aA e.aA=some x) (h2:L++[e]=x.l.take (L.length+1)) (h3:x.l0.length<=L.length):G.aE (L++[e]):=by
 intro i hi;by_cases c:i<L.length;·rw[Wn c];obtain⟨r,r1,r2,r3⟩:=h i c;refine⟨r,r1,?_,r3⟩;rw[Vz (by omega)];exact r2
 ·have:i=L.length:=by simp at hi;omega
  subst this;rw[Ww (U8 _)];simp only[Xp,Wy];refine⟨x,h1,?_,h3⟩;rw[<-h2,Vs (by simp)]
theorem RG {L : Es} {e : fU} (h : me L) (he : ∀ a ∈ L, a.aA <= e.aA) : me (L ++ [e]) := by
  unfold me
  rw [List.pairwise_append]
  exact ⟨h, List.pairwise_singleton _ _, fun a ha b hb => by obtain rfl : b = e := by simpa using hb
                                                             exact he a ha⟩
def fj.bz (r:fj)(e:fU):fj:={r with aA:={r.aA with aA:=⟨r.aA.aA.aA,r.aA.aA.aD,r.aA.aA.es++[e]⟩}}
theorem MZ (D:Es)(r:fj)(e:fU):gn D (r.bz e)=gn D r++[e]:=by show gA D _=gA D _++_;unfold gA fj.bz;simp only[Vr]
theorem Ql (r:fj)(e:fU):(r.bz e).aA.aA.aC=r.aA.aA.aC+1:=by unfold fj.bz fA.aC;simp;omega
theorem gx.ok.bt (ok:G.ok){t id:Int}{L:Es}{e:fU}(w:G.aK true t id L)(he:e.aA=t)(hc:¬e.aE)(hs:e.aF)(h0:0<t)(hno:∀x,G.aA t=some x->x.id≠id):
  ∃G',G'.ok/\je id G G'/\G.aA t=none/\G'.aA t=some ⟨id,L,L++[e]⟩/\(∀s,s≠t->G'.aA s=G.aA s)/\G'.aC=G.aC/\G'.aG=G.aG/\G'.aF=G.aF/\G'.aD=G.aD/\G'.aH=G.aH:=by
 have none':G.aA t=none:=by
  cases e:G.aA t with
  | none=>rfl
  | some x=>exact absurd (ok.bw (ok.aA t x e).2.2.2.2.2 w) (hno x e)
 obtain⟨ld,hld⟩:∃ld:Int->Option mq,ld=λs=>if s=t then some ⟨id,L,L++[e]⟩ else G.aA s:=⟨_,rfl⟩
 have new:ld t=some ⟨id,L,L++[e]⟩:=by rw[hld];simp
 have old:∀s,s≠t->ld s=G.aA s:=λs hs=>by rw[hld];simp[hs]
 have sub:∀s x,G.aA s=some x->ld s=some x:=λs x hx=>by
  by_cases c:s=t
  ·rw[c,none']at hx;cases hx
  ·rw[old s c];exact hx
 have inv:∀s x,ld s=some x->(s=t/\x=⟨id,L,L++[e]⟩)\/G.aA s=some x:=λs x hx=>by
  by_cases c:s=t
  ·rw[c,new]at hx;injection hx with hx;exact .inl ⟨c,hx.symm⟩
  ·rw[old s c]at hx;exact .inr hx
 have g:je id G ⟨G.c0,ld,G.aC,G.aG,G.aF,G.aD,G.aH⟩:=⟨rfl,λs x hx=>⟨x.l,sub s x hx,Wb _,λ_=>rfl⟩,λs x h1 h2=>(by
  rcases inv s x h1 with⟨_,z⟩ | z
  ·rw[z]
  ·rw[h2]at z;cases z),λ_ _ _ h=>h,λ_ _ _=>rfl,λ_ _ _ h=>h,λ_ _ _=>rfl,λ_ _ _ h=>h,λ_ _ _ _ h=>h,λ_ h=>h,Vi _⟩
 have late:∀v w,G.aC t v=some w->w.aD=false:=λv w hv=>by
  cases c:w.aD with
  | false=>rfl
  | true=>obtain⟨x,hx⟩:=ok.aN t v w hv c;rw[none']at hx;cases hx
 have wf:(gx.mk G.c0 ld G.aC G.aG G.aF G.aD G.aH).aK false t id L:=by
  obtain⟨Q,q1,q2⟩:=w.aC
  refine⟨w.aA.aA g,w.aD,w.lt,Q,q1,λv hv=>?_⟩
  obtain⟨a,a1,a2,a3,a4⟩:=q2 v hv
  exact⟨a,a1,a2,(λz=>(by rw[late v a a1]at z;cases z)),a4⟩
 refine⟨gx.mk G.c0 ld G.aC G.aG G.aF G.aD G.aH,⟨ok.aK,λs x hx=>?_,λs x hx=>?_,λs v a ha=>⟨(ok.aH s v a ha).1.aA g,(ok.aH s v a ha).2⟩,λs v n ha=>?_,ok.aI,λs v n t' a x h1 h2 h3 h4=>?_,ok.aM,λs v a h1 h2=>?_,λs v M hM=>⟨(ok.aF s v M hM).1.aA g,(ok.aF s v M hM).2⟩,λc hc=>?_,ok.aO,λs x hx j hj hcj hl=>?_⟩,g,none',new,old,rfl,rfl,rfl,rfl,rfl⟩
 ·rcases inv s x hx with⟨rfl,rfl⟩ | hx
  ·intro a ha
   rcases VK.1 ha with ha | ha
   ·obtain⟨i,hi,rfl⟩:=Xh.1 ha
    exact ok.bz w.aA hi
   ·obtain rfl:a=e:=by simpa using ha
    exact hs
  ·exact ok.aG s x hx
 ·rcases inv s x hx with⟨rfl,rfl⟩ | hx
  ·refine⟨h0,List.prefix_append _ _,by simp,λi hi hl=>?_,?_,wf⟩
   ·have:i=L.length:=by simp at hi;have hl':L.length<=i:=hl;omega
    subst this
    simp only
    rw[Ww (U8 _)]
    simpa using he
   ·exact (w.aA.aA g).aE (x:=⟨id,L,L++[e]⟩) (by rw[he];exact new) (by rw[Vs (by simp)]) (U8 _)
  ·obtain⟨a1,a2,a3,a4,a5,a6⟩:=ok.aA s x hx
   exact⟨a1,a2,a3,a4,a5.aA g,a6.aA.aA g,a6.aD,a6.lt,a6.aC⟩
 ·obtain⟨x,h1,h2⟩:=ok.aE s v n ha
  exact⟨x,sub s x h1,h2⟩
 ·rcases inv s x h4 with⟨rfl,rfl⟩ | h4
  ·obtain⟨y,h5,-⟩:=ok.aE _ v n h1
   rw[none']at h5;cases h5
  ·exact (ok.aL s v n t' a x h1 h2 h3 h4).imp (λz=>z) λ⟨q,y,y1,y2,y3,y4⟩=>⟨q,y,y1,y2,sub _ _ y3,y4⟩
 ·obtain⟨x,hx⟩:=ok.aN s v a h1 h2;exact⟨x,sub _ _ hx⟩
 ·obtain⟨x,h1,h2⟩:=ok.aC c hc;exact⟨x,sub _ _ h1,h2⟩
 ·rcases inv s x hx with⟨rfl,rfl⟩ | hx
  ·have:j=L.length:=by simp at hj;have hl':L.length<=j:=hl;omega
   subst this
   simp only at hcj
   rw[Ww (U8 _)]at hcj
   exact absurd (by simpa using hcj) hc
  ·exact ok.aD s x hx j hj hcj hl
theorem gx.ok.a_ (ok:G.ok){t id:Int}{l0 L:Es}{e:fU}(hl:G.aA t=some ⟨id,l0,L⟩)(he:e.aA=t)(hs:e.aF)
  (hc:e.aE->pb (iB G.c0 L) (im e.aC).1/\(fR L=0\/∃c'∈G.aD,fR L<=c'.n/\c'.t<=t/\c'.l.take (fR L)=L.take (fR L))):
  ∃G',G'.ok/\je id G G'/\G'.aA t=some ⟨id,l0,L++[e]⟩/\(∀s,s≠t->G'.aA s=G.aA s)/\G'.aC=G.aC/\G'.aG=G.aG/\G'.aF=G.aF/\G'.aD=G.aD/\G'.aH=G.aH:=by
 obtain⟨ld,hld⟩:∃ld:Int->Option mq,ld=λs=>if s=t then some ⟨id,l0,L++[e]⟩ else G.aA s:=⟨_,rfl⟩
 have new:ld t=some ⟨id,l0,L++[e]⟩:=by rw[hld];simp
 have old:∀s,s≠t->ld s=G.aA s:=λs hs=>by rw[hld];simp[hs]
 have inv:∀s x,ld s=some x->(s=t/\x=⟨id,l0,L++[e]⟩)\/(s≠t/\G.aA s=some x):=λs x hx=>by
  by_cases c:s=t
  ·rw[c,new]at hx;injection hx with hx;exact .inl ⟨c,hx.symm⟩
  ·rw[old s c]at hx;exact .inr ⟨c,hx⟩
 have g:je id G ⟨G.c0,ld,G.aC,G.aG,G.aF,G.aD,G.aH⟩:=by
  refine⟨rfl,λs x hx=>?_,λs x h1 h2=>?_,λ_ _ _ h=>h,λ_ _ _=>rfl,λ_ _ _ h=>h,λ_ _ _=>rfl,λ_ _ _ h=>h,λ_ _ _ _ h=>h,λ_ h=>h,Vi _⟩
  ·by_cases c:s=t
   ·subst c
    rw[hl]at hx
    injection hx with hx
    subst hx
    exact⟨_,new,List.prefix_append _ _,λz=>absurd rfl z⟩
   ·exact⟨x.l,(old s c).trans hx,Wb _,λ_=>rfl⟩
  ·rcases inv s x h1 with⟨z,-⟩ | ⟨_,z⟩
   ·rw[z,hl]at h2;cases h2
   ·rw[h2]at z;cases z
 have sub:∀s x,G.aA s=some x->∃y,ld s=some y/\y.id=x.id/\y.l0=x.l0/\x.l<+:y.l:=λs x hx=>by
  obtain⟨l',h1,h2,-⟩:=g.aA s x hx
  exact⟨_,h1,rfl,rfl,h2⟩
 obtain⟨b1,b2,b3,b4,b5,b6⟩:=ok.aA t _ hl
 refine⟨gx.mk G.c0 ld G.aC G.aG G.aF G.aD G.aH,⟨ok.aK,λs x hx=>?_,λs x hx=>?_,λs v a ha=>⟨(ok.aH s v a ha).1.aA g,(ok.aH s v a ha).2⟩,λs v n ha=>?_,ok.aI,λs v n t' a x h1 h2 h3 h4=>?_,ok.aM,λs v a h1 h2=>?_,λs v M hM=>⟨(ok.aF s v M hM).1.aA g,(ok.aF s v M hM).2⟩,λc hc'=>?_,ok.aO,λs x hx j hj hcj hlj=>?_⟩,g,new,old,rfl,rfl,rfl,rfl,rfl⟩
 ·rcases inv s x hx with⟨rfl,rfl⟩ | ⟨-,hx⟩
  ·intro a ha
   rcases VK.1 ha with ha | ha
   ·exact ok.aG _ _ hl a ha
   ·obtain rfl:a=e:=by simpa using ha
    exact hs
  ·exact ok.aG s x hx
 ·rcases inv s x hx with⟨rfl,rfl⟩ | ⟨-,hx⟩
  ·refine⟨b1,b2.trans (List.prefix_append _ _),by have:l0.length<L.length:=b3;simp;omega,λi hi hli=>?_,?_,b6.aA.aA g,b6.aD,b6.lt,b6.aC⟩
   ·by_cases c:i<L.length
    ·simp only
     rw[Wn c]
     exact b4 i c hli
    ·have:i=L.length:=by simp at hi;omega
     subst this
     simp only
     rw[Ww (U8 _)]
     simpa using he
   ·exact (b5.aA g).aE (x:=⟨id,l0,L++[e]⟩) (by rw[he];exact new) (by rw[Vs (by simp)]) (Nat.le_of_lt b3)
  ·obtain⟨a1,a2,a3,a4,a5,a6⟩:=ok.aA s x hx
   exact⟨a1,a2,a3,a4,a5.aA g,a6.aA.aA g,a6.aD,a6.lt,a6.aC⟩
 ·obtain⟨x,h1,h2⟩:=ok.aE s v n ha
  obtain⟨y,y1,-,-,y2⟩:=sub s x h1
  exact⟨y,y1,by have:=y2.length_le;omega⟩
 ·obtain⟨x0,h5,h6⟩:=ok.aE s v n h1
  obtain⟨y,y1,-,-,y2⟩:=sub s x0 h5
  have h4:ld s=some x:=h4
  rw[y1]at h4
  injection h4 with h4
  subst h4
  rw[iX y2 h6]
  exact (ok.aL s v n t' a x0 h1 h2 h3 h5).imp (λz=>z) λ⟨q,z,z1,z2,z3,z4⟩=>let⟨z',w1,_,w2,_⟩:=sub q z z3;⟨q,z',z1,z2,w1,by rw[w2];exact z4⟩
 ·obtain⟨x,hx⟩:=ok.aN s v a h1 h2
  obtain⟨y,y1,-⟩:=sub s x hx
  exact⟨y,y1⟩
 ·obtain⟨x,h1,h2,h3,h4⟩:=ok.aC c hc'
  obtain⟨y,y1,-,y2,y3⟩:=sub _ x h1
  exact⟨y,y1,h2.trans y3,by rw[y2];exact h3,h4⟩
 ·rcases inv s x hx with⟨rfl,rfl⟩ | ⟨-,hx⟩
  ·simp only at hj hcj hlj ⊢
   by_cases c:j<L.length
   ·rw[Wn c]at hcj
    rw[Vz (by omega),Vz (by omega)]
    obtain⟨c1,c2⟩:=ok.aD _ _ hl j c hcj hlj
    refine⟨c1,c2.imp (λz=>z) λ⟨c',d1,d2,d3,d4⟩=>⟨c',d1,d2,d3,?_⟩⟩
    rw[Vz (by have:=mT (L.take j);simp only[Va]at this;omega)]
    exact d4
   ·have:j=L.length:=by simp at hj;omega
    subst this
    rw[Ww (U8 _)]at hcj
    simp only[Xp,Wy]at hcj
    obtain⟨c1,c2⟩:=hc hcj
    rw[Vz (U8 _),Vs (U8 _),Vs (by simp),xm,U4 hcj]
    refine⟨c1,c2.imp (λz=>z) λ⟨c',d1,d2,d3,d4⟩=>⟨c',d1,d2,d3,?_⟩⟩
    rw[Vz (mT _)]
    exact d4
  ·exact ok.aD s x hx j hj hcj hlj
theorem gx.ok.aU (ok:G.ok){t id:Int}{n:Nat}{x:mq}(hx:G.aA t=some x)(hn:n<=x.l.length)(hg:∀s w,G.aC s id=some w->s<=t):
  (gx.mk G.c0 G.aA G.aC G.aG (λs v m=>G.aF s v m\/(s=t/\v=id/\m<=n)) G.aD G.aH).ok/\je id G (gx.mk G.c0 G.aA G.aC G.aG (λs v m=>G.aF s v m\/(s=t/\v=id/\m<=n)) G.aD G.aH):=by
 refine⟨⟨ok.aK,ok.aG,λs y hy=>(let⟨a1,a2,a3,a4,a5,a6⟩:=ok.aA s y hy;⟨a1,a2,a3,a4,a5,a6.aA,a6.aD,a6.lt,a6.aC⟩),ok.aH,λs v m h=>?_,λs v m m' h hm=>?_,λs v m t' a y h1 h2 h3 h4=>?_,ok.aM,ok.aN,ok.aF,λc hc=>?_,ok.aO,ok.aD⟩,⟨rfl,λs y hy=>⟨y.l,hy,Wb _,λ_=>rfl⟩,λs y h1 h2=>(by have h1:G.aA s=some y:=h1;rw[h2]at h1;cases h1),λ_ _ _ h=>h,λ_ _ _=>rfl,λ_ _ _ h=>h,λ_ _ _=>rfl,λ_ _ _ h=>.inl h,λs v m hv h=>h.resolve_right (λz=>hv z.2.1),λ_ h=>h,Vi _⟩⟩
 ·rcases h with h | ⟨rfl,rfl,h⟩
  ·exact ok.aE s v m h
  ·exact⟨x,hx,by omega⟩
 ·exact h.imp (λz=>ok.aI s v m m' z hm) λ⟨a,b,c⟩=>⟨a,b,by omega⟩
 ·rcases h1 with h1 | ⟨rfl,rfl,h1⟩
  ·exact ok.aL s v m t' a y h1 h2 h3 h4
  ·have:=hg t' a h2;omega
 ·obtain⟨y,h1,h2,h3,h4,Q,q1,q2⟩:=ok.aC c hc
  exact⟨y,h1,h2,h3,h4,Q,q1,λv hv=>.inl (q2 v hv)⟩
theorem gx.ok.aW (ok:G.ok){L:Es}(hL:G.aE L){t:Int}(ht:∀e∈L,e.aA<=t){p:Nat}(hp:p<L.length) (hc:L[p].aE) (hlt:p+1<fR L):
  ∃c'∈G.aD,p+1<=c'.n/\c'.t<=t/\c'.l.take (p+1)=L.take (p+1):=by
 have hl:=mT L
 obtain⟨g1,g2⟩:=(qi L).2 (by omega)
 obtain⟨x,s1,s2,s3⟩:=hL _ g1
 have hr:=oX s2 (by omega)
 have e:=mh s2 (i:=fR L-1) (by omega)
 rw[U0 g1,U0 (by omega)]at e
 injection e with e
 have cf:=(ok.aD _ x s1 (fR L-1) (by omega) (e▸g2) s3).2
 have e2:x.l.take (fR L-1)=L.take (fR L-1):=(kJ s2 (by omega)).symm
 have h1:p+1<=fR (L.take (fR L-1)):=by
  refine B7 (l:=L.take (fR L-1)) (k:=p) (by simp only[Va];omega) ?_
  rw[Wm];exact hc
 rw[e2]at cf
 obtain⟨d,d1,d2,d3,d4⟩:=cf.resolve_left (by omega)
 have h2:=mT (L.take (fR L-1))
 simp only[Va]at h2
 have h3:=ht _ (Vx g1)
 refine⟨d,d1,by omega,by omega,kJ (d4.trans (kJ s2 (by omega)).symm) h1⟩
theorem gx.ok.aV (ok:G.ok){t id:Int}{l0 L:Es}(hl:G.aA t=some ⟨id,l0,L⟩)(ht:∀e∈L,e.aA<=t){n:Nat}(h0:l0.length<n)(hn:n<=L.length){Q:List Int}(hq:(iB G.c0 L).aH Q=true)(ha:∀v∈Q,G.aF t v n):
  (gx.mk G.c0 G.aA G.aC G.aG G.aF (⟨t,n,L⟩ :: G.aD) G.aH).ok/\je id G (gx.mk G.c0 G.aA G.aC G.aG G.aF (⟨t,n,L⟩ :: G.aD) G.aH):=by
 refine⟨⟨ok.aK,ok.aG,λs y hy=>(let⟨a1,a2,a3,a4,a5,a6⟩:=ok.aA s y hy;⟨a1,a2,a3,a4,a5,a6.aA,a6.aD,a6.lt,a6.aC⟩),ok.aH,ok.aE,ok.aI,ok.aL,ok.aM,ok.aN,ok.aF,λc hc=>?_,λa c b e p hp u hlt=>?_,λs x hx j hj E C=>?_⟩,⟨rfl,λs y hy=>⟨y.l,hy,Wb _,λ_=>rfl⟩,λs y h1 h2=>(by have h1:G.aA s=some y:=h1;rw[h2]at h1;cases h1),λ_ _ _ h=>h,λ_ _ _=>rfl,λ_ _ _ h=>h,λ_ _ _=>rfl,λ_ _ _ h=>h,λ_ _ _ _ h=>h,λc h=>List.mem_cons_of_mem _ h,Vi _⟩⟩
 ·rcases VP.1 hc with rfl | hc
  ·exact⟨_,hl,Wb _,h0,hn,Q,hq,ha⟩
  ·exact ok.aC c hc
 ·cases a with
  | nil=>
   simp only[Wd,Wc]at e
   obtain⟨rfl,rfl⟩:=e
   exact ok.aW (ok.aA _ _ hl).2.2.2.2.1 ht hp u hlt
  | cons a0 a=>
   simp only[WM,Wc]at e
   exact ok.aO a c b e.2 p hp u hlt
 ·obtain⟨c1,c2⟩:=ok.aD s x hx j hj E C
  exact⟨c1,c2.imp (λz=>z) λ⟨c',d1,d2⟩=>⟨c',List.mem_cons_of_mem _ d1,d2⟩⟩
end
theorem gx.ok.aP {G:gx}(ok:G.ok){t:Int}{x:mq}(hx:G.aA t=some x):me x.l/\∀e∈x.l,e.aA<=t:=by
 obtain⟨-,a2,a3,a4,-,a6⟩:=ok.aA t x hx
 have u:∀e∈x.l,e.aA<=t:=by
  intro e he
  obtain⟨i,hi,rfl⟩:=Xh.1 he
  by_cases c:x.l0.length<=i
  ·exact Int.le_of_eq (a4 i hi c)
  ·have e1:=mh (iX a2 (n:=i+1) (by omega)) (i:=i) (by omega)
   rw[U0 hi,U0 (by omega)]at e1
   injection e1 with e1
   rw[e1]
   exact Int.le_of_lt (a6.lt _ (Vx _))
 refine⟨?_,u⟩
 unfold me
 rw[WW]
 intro i j hi hj C
 by_cases c:x.l0.length<=j
 ·rw[a4 j hj c];exact u _ (Vx _)
 ·have e:∀k,(hk:k<x.l0.length)->∃h:k<x.l.length,x.l[k]=x.l0[k]:=λk hk=>by
   have e1:=mh (iX a2 (n:=k+1) (by omega)) (i:=k) (by omega)
   rw[U0 (by omega),U0 hk]at e1
   injection e1 with e1
   exact⟨by omega,e1⟩
  obtain⟨_,e1⟩:=e i (by omega)
  obtain⟨_,e2⟩:=e j (by omega)
  rw[e1,e2]
  exact Ic a6.aD (Nat.le_of_lt C) (by omega)
def gx.aJ (G:gx)(B:Nat):Prop:=(∀t w,G.aA t=some w->w.l.length<=B)/\G.aH<=B
theorem gx.aJ.aA {G:gx}{B B':Nat}(h:G.aJ B)(hb:B<=B'):G.aJ B':=⟨λt w hw=>Vh (h.1 t w hw) hb,by have:=h.2;omega⟩
theorem gx.aJ.aC {G:gx}{B:Nat}(h:G.aJ B){L:Es}(hL:G.aE L):L.length<=B:=by
 by_cases c:L.length=0
 ·omega
 ·obtain⟨y,h1,h2,-⟩:=hL (L.length-1) (by omega);have:=oX h2 (by omega);have:=h.1 _ y h1;omega
section
variable {G G':gx} {D:Es} {r r':fj}
theorem gE.aY (g:je r.id G G')(h:gE G D r){e:fU}{l0:Es} (hl:G'.aA r.aA.aC=some ⟨r.id,l0,gn D r++[e]⟩) (E:G'.ok) (old:∀s,s≠r.aA.aC->G'.aA s=G.aA s) (hg:G'.aC=G.aC) (I:G'.aG=G.aG) (C:G'.aF=G.aF) (he:e.aA=r.aA.aC)
  (e1:r'.id=r.id) (e2:r'.aA=(r.bz e).aA) (e3:r'.aF=r.aF) (e4:r'.aE=r.aE) (e5:r'.aI=2) (e7:∀f∈r'.aC,f∈r.aC\/(f.aC=r.aA.aA.aC+1/\f.aD=0)):gE G' D r':=by
 have ef:gn D r'=gn D r++[e]:=by rw[<-MZ];show gA D _=gA D _;rw[e2]
 have hh:r'.aA.aC=r.aA.aC/\r'.aA.aF=r.aA.aF/\r'.aA.aA.aA=r.aA.aA.aA/\r'.aA.aA.aD=r.aA.aA.aD/\r'.aA.aD=r.aA.aD/\r'.aA.aG=r.aA.aG/\r'.aA.aA.aC=r.aA.aA.aC+1:=by
  rw[e2];exact⟨rfl,rfl,rfl,rfl,rfl,rfl,Ql r e⟩
 obtain⟨ht,hv,hb,M,hc,hs,u⟩:=hh
 have hlen:=h.aQ
 have at0:=h.aD
 have O:=h.on.aA
 have tk:∀n:Int,n<=r.aA.aA.aC->(gn D r').take n.toNat=(gn D r).take n.toNat:=λn hn=>by
  rw[ef,Vz (by omega)]
 have fe:G'.aE (gn D r'):=by
  rw[ef]
  have:=(E.aA _ _ hl).2.2.2.2.1
  exact this
 refine⟨⟨by rw[e1];exact h.id.1,by rw[ht];exact W7 h.id.2 g.aE⟩,⟨by rw[hb];exact O,by rw[hb,M];exact h.on.aD⟩,fe,?_,?_,by rw[hc,hb,g.c0];exact h.aI,by rw[hs];exact h.aH,by rw[hb,e3,e4,u];omega,⟨by rw[e3,tk _ (by omega)];exact h.aE.1,by rw[e3];exact h.aE.2⟩,?_,by rw[ht];exact h.aF,λt w z=>?_,λz=>?_,λt L z=>?_,λt x z hx=>?_,λt n z=>?_,.inr (.inr e5),(λz=>by rw[e5]at z;cases z),λ_=>⟨l0,by rw[ht,e1,ef];exact hl⟩,λf hf=>?_⟩
 ·rw[ef];exact RG h.aG (λa ha=>by rw[he];exact h.le a ha)
 ·rw[ef,ht]
  intro a ha
  rcases VK.1 ha with ha | ha
  ·exact h.le a ha
  ·obtain rfl:a=e:=by simpa using ha
   omega
 ·rw[ht,e4];exact (h.aA.aC g).of (tk _ (by omega))
 ·rw[e1,hg]at z;rw[ht,hv];exact h.aJ t w z
 ·rw[hv]at z;rw[e1,ht,hg,hv];exact h.aP z
 ·rw[e1,I]at z;rw[ht];exact h.aL t L z
 ·rw[e1]at hx;rw[ht]
  by_cases c:t=r.aA.aC
  ·omega
  ·rw[old t c]at z;exact h.aM t x z hx
 ·rw[e1,C]at z
  rw[ht,ef]
  obtain⟨a1,a2⟩:=h.aK t n z
  refine⟨a1,λx hx=>?_⟩
  by_cases c:t=r.aA.aC
  ·rw[c,hl]at hx
   injection hx with hx
   subst hx
   exact .inl (WH _ _)
  ·rw[old t c]at hx
   refine (a2 x hx).imp (λz=>z.trans (List.prefix_append _ _)) λ⟨s,y,y1,y2,y3,y4⟩=>?_
   obtain⟨l',w1,-,-⟩:=g.aA s y y3
   exact⟨s,_,y1,y2,w1,y4⟩
 ·rw[u,ht,C]
  rcases e7 f hf with z | ⟨z1,z2⟩
  ·obtain⟨a1,a2,a3⟩:=h.aO f z
   exact⟨⟨a1.1,by omega⟩,⟨a2.1,by omega⟩,a3⟩
  ·have:0<=r.aA.aA.aC:=by omega
   exact⟨⟨by omega,by omega⟩,⟨by omega,by omega⟩,.inl z2⟩
theorem gE.bE (ok:G.ok)(h:gE G D r)(h1:r.aI=1)(hw:r.aM.aH r.aH=true){e:fU}(he:e.aA=r.aA.aC)(hs:e.aF)(hc:¬e.aE):
  ∃G',G'.ok/\je r.id G G'/\(∀B,G.aJ B->G'.aJ (B+1))/\∀r':fj,r'.id=r.id->r'.aA=(r.bz e).aA->r'.aF=r.aF->r'.aE=r.aE->r'.aI=2->(∀f∈r'.aC,f∈r.aC\/(f.aC=r.aA.aA.aC+1/\f.aD=0))->gE G' D r':=by
 obtain⟨⟨r0,-⟩,r1,r2,r3⟩:=h.aS h1
 have cd:=ok.aF _ _ _ r1
 have w:G.aK true r.aA.aC r.id (gn D r):=by
  refine⟨h.aC,h.aG,cd.2.2,r.aH,by rw[<-h.aU];exact hw,λv hv=>?_⟩
  obtain⟨w,w1,w2⟩:=r2 v hv
  obtain⟨L,l1,l2⟩:=ok.aM _ _ _ w1
  rw[w2,r1]at l1
  injection l1 with l1
  subst l1
  exact⟨w,w1,w2,λ_=>rfl,l2⟩
 obtain⟨G',u,g,-,n1,n2,n3,n4,n5,-,nt⟩:=ok.bt w he hc hs r0 r3
 refine⟨G',u,g,λB sB=>⟨λt y hy=>?_,by rw[nt];have:=sB.2;omega⟩,λr' e1 e2 e3 e4 e5 e7=>h.aY g n1 u n2 n3 n4 n5 he e1 e2 e3 e4 e5 e7⟩
 by_cases c:t=r.aA.aC
 ·rw[c,n1]at hy
  injection hy with hy
  subst hy
  have:=sB.aC h.aC
  simp only[U1,VW]
  omega
 ·rw[n2 t c]at hy
  have:=sB.1 t y hy
  omega
theorem gE.bD (ok:G.ok)(h:gE G D r)(h2:r.aI=2){e:fU}(he:e.aA=r.aA.aC)(hs:e.aF)(hc:e.aE->pb r.aM (im e.aC).1/\r.aA.of.2<=r.aE):
  ∃G',G'.ok/\je r.id G G'/\(∀B,G.aJ B->G'.aJ (B+1))/\∀r':fj,r'.id=r.id->r'.aA=(r.bz e).aA->r'.aF=r.aF->r'.aE=r.aE->r'.aI=2->(∀f∈r'.aC,f∈r.aC\/(f.aC=r.aA.aA.aC+1/\f.aD=0))->gE G' D r':=by
 obtain⟨l0,hl⟩:=h.aN h2;obtain⟨o1,o2⟩:=h.aZ;have at0:=h.aD;obtain⟨G',u,g,n1,n2,n3,n4,n5,-,nt⟩:=ok.a_ hl he hs (λz=>by
  obtain⟨z1,z2⟩:=hc z;rw[h.aU]at z1;refine⟨z1,?_⟩;have hle:(fR (gn D r):Int)<=r.aE:=by have:=h.on.aA;rcases o2 with⟨o2,o3⟩ | o2<;>omega
  rcases h.aA with z | ⟨hl',c,c1,c2,c3,c4⟩;·exact .inl (by omega)
  ·exact .inr ⟨c,c1,by omega,c3,(kJ c4 (by omega)).symm⟩)
 refine⟨G',u,g,λB sB=>⟨λt y hy=>?_,by rw[nt];have:=sB.2;omega⟩,λr' e1 e2 e3 e4 e5 e7=>h.aY g n1 u n2 n3 n4 n5 he e1 e2 e3 e4 e5 e7⟩;by_cases c:t=r.aA.aC;·rw[c,n1]at hy;injection hy with hy;subst hy;have:=sB.aC h.aC;simp only[U1,VW];omega
 ·rw[n2 t c]at hy;have:=sB.1 t y hy;omega
theorem gE.aV (ok:G.ok)(h:gE G D r){n:Nat}{x:mq}(hx:G.aA r.aA.aC=some x)(hn:n<=x.l.length)(hp:x.l.take n<+:gn D r):
  ∃G',G'.ok/\je r.id G G'/\(G'.aA=G.aA/\G'.aH=G.aH)/\G'.aD=G.aD/\G'.aF r.aA.aC r.id n/\gE G' D r:=by
 obtain⟨u,g⟩:=ok.aU hx hn (λs w e=>(h.aJ s w e).1);refine⟨_,u,g,⟨rfl,rfl⟩,rfl,.inr ⟨rfl,rfl,U8 _⟩,h.id,h.on,h.aC,h.aG,h.le,h.aI,h.aH,h.aD,h.aE,h.aA,h.aF,h.aJ,h.aP,h.aL,h.aM,λt m z=>?_,h.aR,h.aS,h.aN,λf hf=>?_⟩
 ·rcases z with z | ⟨rfl,_,z⟩;·exact h.aK t m z
  ·refine⟨Vi _,λy hy=>.inl ?_⟩;have hy:G.aA r.aA.aC=some y:=hy;rw[hx]at hy;injection hy with hy;subst hy;exact (List.take_prefix_take_left z).trans hp
 ·obtain⟨a1,a2,a3⟩:=h.aO f hf;exact⟨a1,a2,a3.imp (λz=>z) .inl⟩
theorem gE.a_ (ok:G.ok)(h:gE G D r)(h2:r.aI=2){n:Int}(hc:r.aE<n)(hh:r.aA.aA.aF n=true)(ht:r.aA.aA.aH n=r.aA.aC){Q:List Int}(hq:r.aM.aH Q=true)(ha:∀v∈Q,v=r.id\/∃f∈r.aC,f.aE=v/\n<=f.aD):
  ∃G',G'.ok/\je r.id G G'/\(∀B,G.aJ B->G'.aJ B)/\gE G' D {r with aE:=n}:=by
 obtain⟨l0,hl⟩:=h.aN h2
 have C:=h.aQ
 have O:=h.aD
 have hb0:=h.on.aA
 have hn:n<=r.aA.aA.aC:=by unfold fA.aF at hh;simp at hh;exact hh.2
 obtain⟨G1,u,g1,⟨e1,et⟩,e2,k1,h1⟩:=h.aV ok (n:=(gn D r).length) hl (U8 _) (by rw[VB];exact Wb _)
 rw[h1.aU]at hq
 have M:G1.aA r.aA.aC=some ⟨r.id,l0,gn D r⟩:=by rw[e1];exact hl
 have h0:l0.length<n.toNat:=by
  apply Vb
  intro z
  have E:=(ok.aA _ _ hl).2.1
  have lt:=(ok.aA _ _ hl).2.2.2.2.2.lt
  simp only at E lt
  have hlen':((gA D r.aA.aA).length:Int)=r.aA.aA.aC:=C
  rw[h.on.aE hh,rI (by omega) (by omega)]at ht
  have e:=mh (iX E (n:=n.toNat) (by omega)) (i:=n.toNat-1) (by omega)
  rw[U0 (by omega),U0 (by omega)]at e
  injection e with e
  have:=lt _ (Vx (show n.toNat-1<l0.length by omega))
  rw[<-e]at this
  exact absurd ht (Int.ne_of_lt this)
 obtain⟨I,g2⟩:=u.aV M h.le h0 (by omega) hq (λv hv=>by
  rcases ha v hv with rfl | ⟨f,f1,rfl,f2⟩
  ·exact u.aI _ _ _ _ k1 (by omega)
  ·obtain⟨-,a2,a3⟩:=h1.aO f f1
   rcases a3 with a3 | a3
   ·omega
   ·exact u.aI _ _ _ _ a3 (by omega))
 refine⟨_,I,g1.aM g2,λB sB=>⟨λt y hy=>sB.1 t y (by rw[<-e1];exact hy),by show G1.aH<=_;rw[et];exact sB.2⟩,h1.id,h1.on,h1.aC,h1.aG,h1.le,h1.aI,h1.aH,⟨O.1,by show r.aF<=n;omega,hn⟩,h1.aE,?_,h1.aF,h1.aJ,h1.aP,h1.aL,h1.aM,h1.aK,h1.aR,h1.aS,h1.aN,h1.aO⟩
 exact .inr ⟨by show n<=_;have:gn D {r with aE:=n}=gn D r:=rfl;rw[this];omega,_,List.mem_cons_self,by show n<=(n.toNat:Int);omega,Vi _,rfl⟩
theorem gE.aT (h:gE G D r)(e1:r'.id=r.id)(e2:r'.aA.aC=r.aA.aC)(e3:r'.aA.aF=r.aA.aF)(a3:r'.aA.aA.on D)(I:G.aE (gn D r'))(C:Glb.me (gn D r'))(a4:∀e∈gn D r',e.aA<=r.aA.aC)(O:r'.aA.aD=iB G.c0 (D.take r'.aA.aA.aA.toNat))(E:gF r'.aA.aG/\r'.aA.aG.length<=1)
  (W:r'.aA.aA.aA<=r'.aF/\r'.aF<=r'.aE/\r'.aE<=r'.aA.aA.aC) (M:(gn D r').take r'.aF.toNat=D.take r'.aF.toNat/\r'.aF<=D.length) (U:G.aI r.aA.aC r'.aE (gn D r'))
  (Z:∀t n,G.aF t r.id n->∀x,G.aA t=some x->t<=r.aA.aC->x.l.take n<+:gn D r->x.l.take n<+:gn D r'\/∃s y,t<s/\s<=r.aA.aC/\G.aA s=some y/\¬x.l.take n<+:y.l0)
  (u:(r'.aI=0/\r'.aC=[])\/(gn D r'=gn D r/\r'.aA.aA.aC=r.aA.aA.aC/\r'.aI=r.aI/\r'.aH=r.aH/\r'.aC=r.aC)):gE G D r':=by
 refine⟨⟨by rw[e1];exact h.id.1,by rw[e2];exact h.id.2⟩,a3,I,C,by rw[e2];exact a4,O,E,W,M,by rw[e2];exact U,by rw[e2];exact h.aF,λt w z=>by rw[e2,e3];rw[e1]at z;exact h.aJ t w z,λz=>by rw[e1,e2,e3];rw[e3]at z;exact h.aP z,λt L z=>by rw[e2];rw[e1]at z;exact h.aL t L z,λt x z hx=>by rw[e2];rw[e1]at hx;exact h.aM t x z hx,λt n z=>?_,?_,λz=>?_,λz=>?_,λf hf=>?_⟩;·rw[e1]at z;obtain⟨a1,a2⟩:=h.aK t n z;rw[e2];exact⟨a1,λx hx=>(a2 x hx).elim (λp=>Z t n z x hx a1 p) .inr⟩
 ·rcases u with⟨c,-⟩ | ⟨-,-,c,-⟩;·exact .inl c
  ·rw[c];exact h.aR
 ·rcases u with⟨c,-⟩ | ⟨c1,-,c2,c3,-⟩;·rw[c]at z;cases z
  ·rw[e1,e2,e3,c1,c3];exact h.aS (c2▸z)
 ·rcases u with⟨c,-⟩ | ⟨c1,-,c2,c3,-⟩;·rw[c]at z;cases z
  ·rw[e1,e2,c1];exact h.aN (c2▸z)
 ·rcases u with⟨-,c⟩ | ⟨c1,c4,c2,c3,c5⟩;·rw[c]at hf;cases hf
  ·rw[c4,e2];rw[c5]at hf;exact h.aO f hf
def gT (D:Es)(r:fj):Es:=if (D.length:Int)<r.aE then (gn D r).take r.aE.toNat else D
def gx.aL (G:gx)(D:Es):Prop:=∃t,G.aI t D.length D
theorem gE.bw (ok:G.ok)(hD:G.aL D)(h:gE G D r):D<+:gT D r/\G.aL (gT D r)/\gE G (Glb.gT D r) r/\gE G (Glb.gT D r) {r with aF:=r.aE}/\(Glb.gT D r).take r.aE.toNat=(gn D r).take r.aE.toNat/\r.aE<=(Glb.gT D r).length:=by
 obtain⟨t,ht⟩:=hD;have hlen:=h.aQ;have at0:=h.aD;have hb0:=h.on.aA;have pd:D<+:Glb.gT D r:=by
  unfold Glb.gT;by_cases c:(D.length:Int)<r.aE;·rw[U4 c];have:=ok.aQ ht h.aA (by omega);rw[V4,VB]at this;refine Dr ?_;rw[VG,VT (by omega)];exact this.symm
  ·rw[U6 c];exact Wb _
 have tk:(Glb.gT D r).take r.aE.toNat=(gn D r).take r.aE.toNat/\r.aE<=(Glb.gT D r).length:=by
  unfold Glb.gT;by_cases c:(D.length:Int)<r.aE;·rw[U4 c,VG,W6];exact⟨rfl,by simp only[Va];omega⟩
  ·rw[U6 c];exact⟨(ok.aQ h.aA ht (by omega)).symm,by omega⟩
 have hG:=h.bB pd;have ef:gn (Glb.gT D r) r=gn D r:=(h.on.up pd).2;refine⟨pd,?_,hG,?_,tk⟩
 ·unfold Glb.gT;by_cases c:(D.length:Int)<r.aE
  ·rw[U4 c];refine⟨_,(h.aA.aA (Vi _) ?_).of ?_⟩;·simp only[Va];omega
   ·simp only[Va,V4,VG];congr 1;omega
  ·rw[U6 c];exact⟨t,ht⟩
 ·refine⟨hG.id,hG.on,hG.aC,hG.aG,hG.le,hG.aI,hG.aH,⟨by show r.aA.aA.aA<=r.aE;omega,Vi _,at0.2.2⟩,⟨?_,tk.2⟩,hG.aA,hG.aF,hG.aJ,hG.aP,hG.aL,hG.aM,hG.aK,hG.aR,hG.aS,hG.aN,hG.aO⟩;show (gn (Glb.gT D r) r).take r.aE.toNat=_;rw[ef,tk.1]
theorem gE.bF (h:gE G D r)(d:Int):gE G D (fj.aQ r.id r.aA d):=by have at0:=h.aD;have hb0:=h.on.aA;have tk:(gn D r).take r.aA.aA.aA.toNat=D.take r.aA.aA.aA.toNat:=h.on.aF (U8 _);refine⟨h.id,h.on,h.aC,h.aG,h.le,h.aI,h.aH,⟨Vi _,Vi _,by show r.aA.aA.aA<=r.aA.aA.aC;omega⟩,⟨tk,by show r.aA.aA.aA<=D.length;omega⟩,?_,h.aF,h.aJ,h.aP,h.aL,h.aM,h.aK,.inl rfl,(λe=>by cases e),(λe=>by cases e),(λf hf=>by cases hf)⟩;exact (h.aA.aA (Vi _) (by show r.aA.aA.aA<=r.aE;omega))
end
theorem gx.aE.aF {G:gx}{L L':Es}(h:G.aE L)(h':G.aE L'){i:Nat}(hi:i<L.length)(u:i<L'.length) (e:L[i].aA=L'[i].aA):L.take (i+1)=L'.take (i+1):=by obtain⟨y,a1,a2,-⟩:=h i hi;obtain⟨z,b1,b2,-⟩:=h' i u;rw[e,b1]at a1;injection a1 with a1;rw[a2,b2,a1]
theorem gx.aE.aD {G:gx}{L L':Es}(h:G.aE L)(h':G.aE L'){n:Nat}(hn:n<=L.length)(u:n<=L'.length)(e:iH (L.take n)=iH (L'.take n)):L.take n=L'.take n:=by
 by_cases c:n=0
 ·rw[c];simp
 ·rw[rI (by omega) hn,rI (by omega) u]at e;have:=h.aF h' (i:=n-1) (by omega) (by omega) e;rw[show n-1+1=n by omega]at this;exact this
theorem J8 (l:fA):∀(e:Es)(i:Int)(h:l.aG i e<e.length),¬(l.aF (i+(l.aG i e:Nat))=true/\l.aH (i+(l.aG i e:Nat))=e[l.aG i e].aA):=by
 intro e;induction e with
 | nil=>intro i h;simp at h
 | cons x r ih=>
  intro i h;by_cases c:(l.aF i && decide (l.aH i=x.aA))=true
  ·have e1:l.aG i (x :: r)=l.aG (i+1) r+1:=by simp only[fA.aG];rw[U4 c]
   simp only[e1]at h ⊢;have:=ih (i+1) (by simpa using h);simp only[List.getElem_cons_succ];rw[show i+((l.aG (i+1) r+1:Nat):Int)=i+1+(l.aG (i+1) r:Nat) by omega];exact this
  ·have e1:l.aG i (x :: r)=0:=by simp only[fA.aG];rw[U6 c]
   simp only[e1]at h ⊢;simp only[Wy,Xe,Int.add_zero];intro z;exact c (by simp[z.1,z.2])
theorem List.aA {l:Es}{n k:Nat}(h:n<=l.length):l.take n++(l.drop n).take k=l.take (n+k):=by rw[List.take_add]
section
variable {G:gx} {D:Es} {r:fj}
theorem J7 (ok:G.ok)(h:gE G D r){x:mq}(hx:G.aA r.aA.aC=some x){p:Int}{es:Es}(hp:r.aA.aA.aF p=true)(ht:r.aA.aA.aH p=iH (x.l.take p.toNat))(hle:p+es.length<=x.l.length)(O:es=(x.l.drop p.toNat).take es.length):
  (gn D r).take (p+r.aA.aA.aG (p+1) es).toNat=x.l.take (p+r.aA.aA.aG (p+1) es).toNat/\(p+r.aA.aA.aG (p+1) es).toNat<=(gn D r).length /\
   (r.aA.aA.aG (p+1) es<es.length->∀(h1:(p+r.aA.aA.aG (p+1) es).toNat<(gn D r).length) (h2:(p+r.aA.aA.aG (p+1) es).toNat<x.l.length),(gn D r)[(p+r.aA.aA.aG (p+1) es).toNat].aA≠x.l[(p+r.aA.aA.aG (p+1) es).toNat].aA):=by
 have hlen:=h.aQ
 have hb0:=h.on.aA
 obtain⟨q1,q2⟩:=ky.1 hp
 have fx:=(ok.aA _ _ hx).2.2.2.2.1
 have U:=wM r.aA.aA es (p+1)
 have M:=wL (e:=es) hp
 rw[h.on.aE hp]at ht
 have get:∀j,j<es.length->∃(h1:j<es.length)(h2:p.toNat+j<x.l.length),es[j]=x.l[p.toNat+j]:=λj hj=>by
  refine⟨hj,by omega,?_⟩
  have:es[j]?=((x.l.drop p.toNat).take es.length)[j]?:=by rw[<-O]
  rw[U0 hj,VQ hj,Vt,U0 (by omega)]at this
  injection this
 have C:∀j:Nat,p.toNat+j<(gn D r).length->r.aA.aA.aF (p+1+j)=true/\∀(hh:p.toNat+j<(gn D r).length),r.aA.aA.aH (p+1+j)=(gn D r)[p.toNat+j].aA:=λj hj=>by
  have e:r.aA.aA.aF (p+1+j)=true:=ky.2 ⟨by omega,by omega⟩
  refine⟨e,λhh=>?_⟩
  rw[h.on.aE e]
  have:=rI (l:=gA D r.aA.aA) (n:=(p+1+j).toNat) (by omega) (by have:(gA D r.aA.aA).length=(gn D r).length:=rfl;omega)
  rw[this]
  congr 1
  have:(p+1+j).toNat-1=p.toNat+j:=by omega
  simp only[this]
 refine⟨?_,by omega,λhlt h1 h2 E=>?_⟩
 ·refine h.aC.aD fx (by omega) (by omega) ?_
  by_cases c:r.aA.aA.aG (p+1) es=0
  ·rw[c];simpa using ht
  ·obtain⟨a,ha⟩:∃a,r.aA.aA.aG (p+1) es=a+1:=⟨_,(Nat.succ_pred c).symm⟩
   rw[ha]at U M ⊢
   obtain⟨w1,w2⟩:=EL r.aA.aA es (p+1) a (by omega) (by omega)
   obtain⟨v1,v2,v3⟩:=get a (by omega)
   obtain⟨-,u⟩:=C a (by omega)
   have u:=u (by omega)
   rw[w2,v3]at u
   rw[show (p+((a+1:Nat):Int)).toNat=p.toNat+a+1 by omega,rI (by omega) (by omega),rI (by omega) (by omega)]
   simp only[Nat.add_sub_cancel]
   exact u.symm
 ·have e:(p+(r.aA.aA.aG (p+1) es:Int)).toNat=p.toNat+r.aA.aA.aG (p+1) es:=by omega
  simp only[e]at h1 h2 E
  obtain⟨v1,v2,v3⟩:=get _ hlt
  obtain⟨u1,u⟩:=C _ h1
  have u:=u h1
  have I:¬(r.aA.aA.aF (p+1+(r.aA.aA.aG (p+1) es:Nat))=true/\r.aA.aA.aH (p+1+(r.aA.aA.aG (p+1) es:Nat))=es[r.aA.aA.aG (p+1) es].aA):=by
   intro z
   exact J8 r.aA.aA es (p+1) hlt z
  refine I ⟨u1,?_⟩
  rw[u,v3,E]
theorem gE.bC (ok:G.ok)(h:gE G D r){x:mq}(hx:G.aA r.aA.aC=some x) (h0:r.aI=0/\r.aC=[]) {p:Int} {es:Es} (hp:r.aA.aA.aF p=true) (ht:r.aA.aA.aH p=iH (x.l.take p.toNat)) (I:p+es.length<=x.l.length) (C:es=(x.l.drop p.toNat).take es.length):
  (0<r.aA.aA.aI p es->r.aE<r.aA.aA.aI p es)/\gE G D {r with aA:={r.aA with aA:=r.aA.aA.aE p es}}/\(gA D (r.aA.aA.aE p es)).take (p+es.length).toNat=x.l.take (p+es.length).toNat/\p+es.length<=(r.aA.aA.aE p es).aC:=by
 obtain⟨a1,a2,a3⟩:=J7 ok h hx hp ht I C
 have hlen:=h.aQ
 have E:=h.aD
 have M:=h.on.aA
 have hag:=wM r.aA.aA es (p+1)
 obtain⟨q1,q2⟩:=ky.1 hp
 by_cases c:r.aA.aA.aG (p+1) es<es.length
 ·obtain⟨e1,e2⟩:=vh hp c
  have e3:=Cu hp c
  obtain⟨n,hn⟩:∃n,n=(p+(r.aA.aA.aG (p+1) es:Int)).toNat:=⟨_,rfl⟩
  rw[<-hn]at a1 a2 a3
  have ef:gA D (r.aA.aA.aE p es)=x.l.take (p+es.length).toNat:=by
   have hf:gA D (r.aA.aA.aE p es)=(gn D r).take n++es.drop (r.aA.aA.aG (p+1) es):=by
    rw[e1]
    show _=(gA D r.aA.aA).take n++_
    unfold gA
    simp only
    rw[List.take_append,Vs (l:=D.take _) (by rw[h.on.aC];omega),h.on.aC,Vr]
    congr 3
    omega
   rw[hf,a1]
   have e4:es.drop (r.aA.aA.aG (p+1) es)=(x.l.drop n).take (es.length-r.aA.aA.aG (p+1) es):=by
    have O:∀a:Nat,es.drop a=((x.l.drop p.toNat).take es.length).drop a:=λa=>by rw[<-C]
    rw[O,List.drop_take,List.drop_drop]
    congr 2
    omega
   rw[e4,List.aA (by omega:n<=x.l.length)]
   congr 1
   omega
  have hc:r.aE<=n:=by
   apply Vb
   intro z
   obtain⟨b1,b2⟩:=ok.aJ h.aA hx
   have e5:=mh b1 (i:=n) (by omega)
   rw[U0 (by omega),U0 (by omega)]at e5
   injection e5 with e5
   exact a3 c (by omega) (by omega) (by rw[e5])
  have ll:(gn D {r with aA:={r.aA with aA:=r.aA.aA.aE p es}})=gA D (r.aA.aA.aE p es):=rfl
  have tk:∀k:Nat,k<=n->(gA D (r.aA.aA.aE p es)).take k=(gn D r).take k:=λk hk=>by
   rw[ef,VG,VT (by omega)]
   exact (kJ a1 hk).symm
  refine⟨λ_=>by rw[e2];omega,h.aT (r':={r with aA:={r.aA with aA:=r.aA.aA.aE p es}}) rfl rfl rfl ⟨?_,?_⟩ ?_ ?_ ?_ ?_ h.aH ⟨?_,E.2.1,?_⟩ ⟨?_,h.aE.2⟩ ?_ (λt k hk y hy htl u=>?_) (.inl h0),?_,by rw[e3];omega⟩
  ·show 0<=(r.aA.aA.aE p es).aA/\(r.aA.aA.aE p es).aA<=D.length;rw[(nZ _ _ _).1];exact M
  ·show (r.aA.aA.aE p es).aD=iH (D.take (r.aA.aA.aE p es).aA.toNat);rw[(nZ _ _ _).1,(nZ _ _ _).2];exact h.on.aD
  ·rw[ll,ef];exact (ok.aA _ _ hx).2.2.2.2.1.aC _
  ·rw[ll,ef]
   have rx:=ok.aP hx
   exact rx.1.sublist (List.take_sublist _ _)
  ·rw[ll,ef];intro e he;exact (ok.aP hx).2 e (VR he)
  ·show r.aA.aD=iB G.c0 (D.take (r.aA.aA.aE p es).aA.toNat);rw[(nZ _ _ _).1];exact h.aI
  ·show (r.aA.aA.aE p es).aA<=r.aF;rw[(nZ _ _ _).1];exact E.1
  ·show r.aE<=(r.aA.aA.aE p es).aC;rw[e3];omega
  ·rw[ll,tk _ (by show r.aF.toNat<=n;omega)];exact h.aE.1
  ·exact h.aA.of (tk _ (by show r.aE.toNat<=n;omega))
  ·by_cases c2:t=r.aA.aC
   ·rw[c2,hx]at hy
    injection hy with hy
    subst hy
    refine .inl ?_
    rw[ll,ef]
    refine WE (WH _ _) (WH _ _) ?_
    simp only[Va]
    have:=u.length_le
    simp only[Va]at this
    apply Vb
    intro z
    have e5:=mh (iX u (n:=n+1) (by simp only[Va];omega)) (i:=n) (by omega)
    rw[VQ (by omega),U0 (by omega),U0 (by omega)]at e5
    injection e5 with e5
    exact a3 c (by omega) (by omega) (by rw[e5])
   ·by_cases c3:y.l.take k<+:x.l0
    ·refine .inl ?_
     have px:=c3.trans (ok.aA _ _ hx).2.1
     rw[ll,ef]
     refine WE px (WH _ _) ?_
     obtain⟨K,hK⟩:∃K,K=y.l.take k:=⟨_,rfl⟩
     rw[<-hK]at px u ⊢
     have l1:=px.length_le
     have l2:=u.length_le
     simp only[Va]
     apply Vb
     intro z
     have e5:=mh ((iX u (n:=n+1) (by omega)).trans (iX px (n:=n+1) (by omega)).symm) (i:=n) (by omega)
     rw[U0 (by omega),U0 (by omega)]at e5
     injection e5 with e5
     exact a3 c (by omega) (by omega) (by rw[e5])
    ·exact .inr ⟨r.aA.aC,x,by omega,Vi _,hx,c3⟩
  ·rw[ef,VG,W6]
 ·have c':r.aA.aA.aG (p+1) es=es.length:=by omega
  obtain⟨e1,e2⟩:=OB c'
  rw[c']at a1 a2
  refine⟨λz=>by rw[e2]at z;omega,by rw[e1];exact h,by rw[e1];exact a1,by rw[e1];omega⟩
theorem gE.aW (ok:G.ok)(h:gE G D r){b:Int}(hb:r.aA.aA.aF b=true)(hD:(gn D r).take b.toNat=D.take b.toNat)(e:b<=D.length):
  (r.aA.aA.aK b).on D/\gA D (r.aA.aA.aK b)=gn D r/\(r.aA.aA.aK b).aC=r.aA.aA.aC/\(r.aA.aA.aK b).aA=b:=by
 obtain⟨e1,e2⟩:=Cd hb;obtain⟨q1,q2⟩:=ky.1 hb;have hb0:=h.on.aA;have hlen:=h.aQ;refine⟨⟨by rw[e1];exact⟨by show 0<=b;omega,e⟩,by rw[e1];show r.aA.aA.aH b=iH (D.take b.toNat);rw[h.on.aE hb,<-hD]⟩,?_,e2,by rw[e1]⟩;rw[e1];unfold gA;simp only;rw[<-hD];show (gA D r.aA.aA).take b.toNat++_=gA D r.aA.aA;have:r.aA.aA.es.drop (b-r.aA.aA.aA).toNat=(gA D r.aA.aA).drop b.toNat:=by unfold gA;have e0:(D.take r.aA.aA.aA.toNat).drop b.toNat=[]:=WT (by rw[h.on.aC];omega);rw[List.drop_append,e0,h.on.aC,Wd];congr 1;omega
 rw[this,Wp]
theorem gE.bt (ok:G.ok)(h:gE G D r){x:mq}(hx:G.aA r.aA.aC=some x) (h0:r.aI=0/\r.aC=[]) {b:Int} (hb0:r.aE<b) (E:b<=D.length) (I:G.aI r.aA.aC b (D.take b.toNat)) {sn:List Int} (hs:gF sn/\sn.length<=1):
  gE G D {r with aA:={r.aA with aA:=r.aO b (iH (D.take b.toNat)),aD:=iB G.c0 (D.take b.toNat),aG:=sn},aE:=b,aF:=b}/\(gA D (r.aO b (iH (D.take b.toNat)))).take b.toNat=x.l.take b.toNat/\b.toNat<=x.l.length:=by
 have hlen:=h.aQ
 have at0:=h.aD
 have hbb:=h.on.aA
 obtain⟨b1,b2⟩:=ok.aJ I hx
 rw[VG,W6]at b1
 have fx:=(ok.aA _ _ hx).2.2.2.2.1
 unfold fj.aO
 by_cases c:r.aA.aA.aF b=true/\r.aA.aA.aH b=iH (D.take b.toNat)
 ·rw[U4 c]
  obtain⟨c1,c2⟩:=c
  obtain⟨q1,q2⟩:=ky.1 c1
  rw[h.on.aE c1,b1]at c2
  have e:=h.aC.aD fx (n:=b.toNat) (by omega) b2 c2
  obtain⟨k1,k2,k3,k4⟩:=h.aW ok c1 (e.trans b1.symm) E
  refine⟨h.aT (r':={r with aA:={r.aA with aA:=r.aA.aA.aK b,aD:=iB G.c0 (D.take b.toNat),aG:=sn},aE:=b,aF:=b}) rfl rfl rfl k1 (by show G.aE (gA D (r.aA.aA.aK b));rw[k2];exact h.aC) (by show Glb.me (gA D (r.aA.aA.aK b));rw[k2];exact h.aG) (by show ∀e∈gA D (r.aA.aA.aK b),_;rw[k2];exact h.le) (by show iB G.c0 (D.take b.toNat)=iB G.c0 (D.take (r.aA.aA.aK b).aA.toNat);rw[k4]) hs ⟨by show (r.aA.aA.aK b).aA<=b;omega,Vi _,by show b<=(r.aA.aA.aK b).aC;omega⟩ ⟨?_,E⟩ ?_ (λt k hk y hy M u=>.inl (by show _<+:gA D (r.aA.aA.aK b);rw[k2];exact u)) (.inl h0),by rw[k2];exact e,b2⟩
  ·show (gA D (r.aA.aA.aK b)).take b.toNat=_;rw[k2];exact e.trans b1.symm
  ·show G.aI _ b (gA D (r.aA.aA.aK b))
   rw[k2]
   refine I.of ?_
   rw[VG,W6];exact e.trans b1.symm
 ·rw[U6 c]
  have ef:gA D ⟨b,iH (D.take b.toNat),[]⟩=D.take b.toNat:=by unfold gA;simp
  refine⟨h.aT (r':={r with aA:={r.aA with aA:=⟨b,iH (D.take b.toNat),[]⟩,aD:=iB G.c0 (D.take b.toNat),aG:=sn},aE:=b,aF:=b}) rfl rfl rfl ⟨⟨by show 0<=b;omega,E⟩,rfl⟩ (by show G.aE (gA D _);rw[ef,b1];exact fx.aC _) (by show Glb.me (gA D _);rw[ef,b1];exact (ok.aP hx).1.sublist (List.take_sublist _ _)) (by show ∀e∈gA D _,_;rw[ef,b1];intro e he;exact (ok.aP hx).2 e (VR he)) rfl hs ⟨Vi _,Vi _,by show b<=b+_;simp⟩ ⟨?_,E⟩ ?_ (λt k hk y hy M u=>?_) (.inl h0),by rw[ef,VG,W6];exact b1,b2⟩
  ·show (gA D _).take b.toNat=_;rw[ef,VG,W6]
  ·show G.aI _ b (gA D _);rw[ef];exact I
  ·show _<+:gA D _\/_
   rw[ef,b1]
   obtain⟨K,hK⟩:∃K,K=y.l.take k:=⟨_,rfl⟩
   rw[<-hK]at u ⊢
   have C:K<+:x.l->K<+:x.l.take b.toNat:=λpx=>by
    refine WE px (WH _ _) ?_
    simp only[Va]
    apply Vb
    intro z
    have l2:=u.length_le
    have e1:(gn D r).take b.toNat=x.l.take b.toNat:=(iX u (by omega)).trans (iX px (by omega)).symm
    have hh:r.aA.aA.aF b=true:=ky.2 ⟨by omega,by omega⟩
    exact c ⟨hh,by rw[h.on.aE hh,b1];exact W_ iH e1⟩
   by_cases c2:t=r.aA.aC
   ·rw[c2,hx]at hy
    injection hy with hy
    exact .inl (C (by rw[hK,hy];exact WH _ _))
   ·by_cases c3:K<+:x.l0
    ·exact .inl (C (c3.trans (ok.aA _ _ hx).2.1))
    ·exact .inr ⟨r.aA.aC,x,by omega,Vi _,hx,c3⟩
end
theorem FX {c:fq}(h:c.aE=true):iV.ok c:=by
 obtain⟨-,⟨h1,h2⟩,⟨h3,h4⟩,⟨h5,h6⟩,-⟩:=mY.1 h;have f:=lA h;have k:∀l:List Int,(∀m∈l,1<=m/\m<=7)->∀m∈l,ia m:=λl hl m hm=>by have:=hl m hm;constructor<;>omega
 have a:=k _ h2;have b:=k _ h4;have c':=k _ h6;obtain⟨f1,f2,f3⟩:=f;refine⟨⟨?_,a⟩,⟨?_,b⟩,⟨?_,c'⟩⟩<;>(simp only;omega)
theorem Gr {c:fq}(h:c.aE=true):im c.aF=(c,0):=by have e:=iV.aE c [] (FX h);rw[uT,VY]at e;unfold im;rw[e];simp[fH.aD,h]
theorem zB {c:fq}(h:c.aE=true):gF c.aF:=by rw[<-uT];exact iV.aF c (FX h)
theorem Tw {a b:List Int}(ha:gF a/\a.length<=2^20)(hb:gF b/\b.length<=2^20):iL (gO a.length++a++gO b.length++b)=(a,b,0):=by
 have e1:=ni.aE a (gO b.length++b) ⟨by omega,ha.1⟩;have e2:=ni.aE b [] ⟨by omega,hb.1⟩;have u:ni.aA (some (gO a.length++a++gO b.length++b))=(a,some (gO b.length++b)):=by rw[<-e1];congr 2;show _=(gO a.length++a)++_;simp only[Vr]
 have e:ni.aA (some (gO b.length++b))=(b,some []):=by rw[<-e2];congr 2;show _=(gO b.length++b)++_;simp
 unfold iL;simp only[u,e];rfl
theorem Cc {c:fq}(h:c.aE=true):c.aF.length<=256:=by obtain⟨f1,f2,f3⟩:=lA h;rw[zC];omega
theorem Cv {L:Es}{t:Int}(h:∀e∈L,e.aA<=t)(h0:0<=t)(n:Nat):iH (L.take n)<=t:=by
 by_cases c:(L.take n).length=0
 ·rw[U7 c];exact h0
 ·rw[rH (by omega)];exact h _ (VR (Vx _))
theorem Gi {G:gx}(ok:G.ok){L:Es}(h:G.aE L){i:Nat}(hi:i<L.length):0<L[i].aA:=by
 obtain⟨y,h1,-⟩:=h i hi
 exact (ok.aA _ y h1).1
theorem Cw {G:gx}(ok:G.ok){L:Es}(h:G.aE L)(n:Nat):0<=iH (L.take n):=by
 by_cases c:(L.take n).length=0
 ·rw[U7 c];exact Vi _
 ·rw[rH (by omega)];exact Int.le_of_lt (Gi ok (h.aC n) (by omega))
structure gS (G:gx)(D:Es)(x:RX):Prop where
 aA:gE G D x.r
 aC:∀m∈x.o.aD,kD G D m
def iq (n:Nat)(G:gx)(D:Es)(k:Int)(x:RX):Prop:=∃G',G'.ok/\je k G G'/\gS G' D x/\x.r.id=k/\∀B,G.aJ B->G'.aJ (B+n)
section
variable {G:gx} {D:Es} {k:Int} {x:RX} {m:fJ}
theorem iq.aA {n:Nat}(ok:G.ok)(h:gS G D x):iq n G D x.r.id x:=⟨G,ok,je.aD _ _,h,rfl,λB sB=>sB.aA (V6 _ _)⟩
theorem iq.aF {n n':Nat}(h:iq n G D k x)(hn:n<=n'):iq n' G D k x:=let⟨G',a,b,c,d,e⟩:=h;⟨G',a,b,c,d,λB sB=>(e B sB).aA (Nat.add_le_add_left hn _)⟩
theorem iq.aD {n n':Nat}{y:RX}(h:iq n G D k x)(f:∀G',G'.ok->je k G G'->gS G' D x->x.r.id=k->iq n' G' D k y):iq (n+n') G D k y:=by obtain⟨G',C,g,r,e,s⟩:=h;obtain⟨G2,u,g2,r2,e2,s2⟩:=f G' C g r e;exact⟨G2,u,g.aM g2,r2,e2,λB sB=>by have:=s2 _ (s B sB);rwa [WG]at this⟩
theorem gS.aI {r':fj}{k:Int}{G':gx}(h:gS G D x)(g:je k G G')(hm:gE G' D r'):gS G' D ⟨r',x.o⟩:=⟨hm,λm e=>(h.aC m e).aC g (Wb _)⟩
theorem gS.aD (h:gS G D x) (hm:kD G D {m with aC:=x.r.id,aL:=x.r.aA.aE,aG:=x.r.aA.aC}):gS G D (x.aH m):=
 ⟨h.aA,λa ha=>by
  rcases VK.1 ha with ha | ha;·exact h.aC a ha
  ·obtain rfl:a=_:=by simpa using ha
   exact hm⟩
theorem gS.aF (h:gS G D x){ok:Bool}{i:Int}(hb:0<=i/\(i=0\/∃t w,G.aA t=some w/\i<=w.l.length))(hi:ok=true->0<=i/\(i=0\/G.aF x.r.aA.aC x.r.id i.toNat)):gS G D (x.aS m ok i):=
 h.aD ⟨⟨h.aA.id,⟨Vk _,λ_=>rfl⟩,⟨(λ_ h=>by cases h),Vk _⟩,⟨Vi _,h.aA.aF⟩,λ_=>hb⟩,(λe=>by cases e),(λe=>by cases e),(λe=>by cases e),λ_ o=>hi o,(λe=>by cases e)⟩
theorem gS.to (ok:G.ok)(h:gS G D x)(h2:x.r.aI=2){f:fV}(hf:1<=f.aC/\f.aC<=x.r.aA.aA.aC+1):gS G D (x.to f):=by
 obtain⟨l0,hl⟩:=h.aA.aN h2;have hlen:=h.aA.aQ;have C:=h.aA.on.aA;have at0:=h.aA.aD;unfold RX.to;refine h.aD ?_;unfold fV.aI;by_cases c:f.aC<=x.r.aA.aA.aA
 ·rw[U4 c];have cr:x.r.aA.aD.aE=true:=by rw[h.aA.aI];exact FR ok.aK _
  have tb:=Tw (a:=x.r.aA.aD.aF) (b:=x.r.aA.aG) ⟨zB cr,by have:=Cc cr;omega⟩ ⟨h.aA.aH.1,by have:=h.aA.aH.2;omega⟩;have cl:=Cc cr;have sl:=h.aA.aH.2;have ag:=ok.aJ (h.aA.aA.aA (Vi _) (show x.r.aA.aA.aA<=x.r.aE by omega)) hl;refine⟨⟨h.aA.id,⟨Vk _,λ_=>rfl⟩,⟨?_,?_⟩,⟨?_,?_⟩,λ_=>⟨C.1,.inr ⟨_,_,hl,?_⟩⟩⟩,(λe=>by cases e),(λe=>by cases e),(λe=>by cases e),(λe=>by cases e),λ_=>⟨_,hl,C.1,C.2,h.aA.on.aD,?_,?_,?_,?_⟩⟩;·show gF (gO x.r.aA.aD.aF.length++x.r.aA.aD.aF++gO x.r.aA.aG.length++x.r.aA.aG);exact (((vq _).aC (zB cr)).aC (vq _)).aC h.aA.aH.1
  ·show (gO x.r.aA.aD.aF.length++x.r.aA.aD.aF++gO x.r.aA.aG.length++x.r.aA.aG).length<=2^16;simp only[U1,js];omega
  ·show 0<=x.r.aA.aA.aD;rw[h.aA.on.aD,<-h.aA.on.aF (U8 _)];exact Cw ok h.aA.aC _
  ·show x.r.aA.aA.aD<=x.r.aA.aC;rw[h.aA.on.aD,<-h.aA.on.aF (U8 _)];exact Cv h.aA.le h.aA.aF _
  ·show x.r.aA.aA.aA<=((gn D x.r).length:Int);omega
  ·refine (h.aA.aA.aA (Vi _) (show x.r.aA.aA.aA<=x.r.aE by omega)).of ?_;show (D.take x.r.aA.aA.aA.toNat).take x.r.aA.aA.aA.toNat=_;rw[VG,W6];exact (h.aA.on.aF (U8 _)).symm
  ·show (iL (gO x.r.aA.aD.aF.length++x.r.aA.aD.aF++gO x.r.aA.aG.length++x.r.aA.aG)).2.2=0;rw[tb]
  ·show im (iL (gO x.r.aA.aD.aF.length++x.r.aA.aD.aF++gO x.r.aA.aG.length++x.r.aA.aG)).1=_;rw[tb,<-h.aA.aI];exact Gr cr
  ·show gF (iL (gO x.r.aA.aD.aF.length++x.r.aA.aD.aF++gO x.r.aA.aG.length++x.r.aA.aG)).2.1/\_;rw[tb];exact h.aA.aH
 ·rw[U6 c];have hh:x.r.aA.aA.aF (f.aC-1)=true:=ky.2 ⟨by omega,by omega⟩;have sl:=h.aA.on.aI (from_:=f.aC) (most:=8) (by omega) (by omega);have e8:(8:Int).toNat=8:=rfl;rw[e8]at sl;have u:(x.r.aA.aA.aJ f.aC 8).length=min 8 ((gn D x.r).length-(f.aC-1).toNat):=by rw[sl,Va,Vo]
  refine⟨⟨h.aA.id,⟨?_,λz=>absurd rfl z⟩,⟨(λ_ h=>by cases h),Vk _⟩,⟨?_,?_⟩,λ_=>⟨?_,.inr ⟨_,_,hl,?_⟩⟩⟩,(λe=>by cases e),(λe=>by cases e),λ_=>⟨_,hl,?_,?_,?_,?_,h.aA.aA⟩,(λe=>by cases e),(λe=>by cases e)⟩;·show (x.r.aA.aA.aJ f.aC 8).length<=8;rw[u];omega
  ·show 0<=x.r.aA.aA.aH (f.aC-1);rw[h.aA.on.aE hh];exact Cw ok h.aA.aC _
  ·show x.r.aA.aA.aH (f.aC-1)<=x.r.aA.aC;rw[h.aA.on.aE hh];exact Cv h.aA.le h.aA.aF _
  ·show 0<=f.aC-1;omega
  ·show f.aC-1<=((gn D x.r).length:Int);omega
  ·show 0<=f.aC-1;omega
  ·show f.aC-1+((x.r.aA.aA.aJ f.aC 8).length:Int)<=(gn D x.r).length;rw[u];omega
  ·exact h.aA.on.aE hh
  ·show x.r.aA.aA.aJ f.aC 8=((gn D x.r).drop (f.aC-1).toNat).take (x.r.aA.aA.aJ f.aC 8).length;rw[u];conv=>lhs;rw[sl]
   have:((gn D x.r).drop (f.aC-1).toNat).length=(gn D x.r).length-(f.aC-1).toNat:=Vo;rw[<-this,<-List.take_eq_take_min]
theorem gS.aM (ok:G.ok)(h:gS G D x)(h2:x.r.aI=2):∀{l:List fV},(∀f∈l,1<=f.aC/\f.aC<=x.r.aA.aA.aC+1)->gS G D (x.aM l)/\(x.aM l).r=x.r:=by
 intro l;induction l generalizing x with
 | nil=>intro _;exact⟨h,rfl⟩
 | cons f l ih=>intro hl;have h1:=h.to ok h2 (hl f (by simp));exact ih h1 h2 (λa ha=>hl a (by simp[ha]))
theorem gS.on (ok:G.ok)(h:gS G D x)(h2:x.r.aI=2):gS G D x.on/\x.on.r=x.r:=h.aM ok h2 (λf hf=>(h.aA.aO f hf).1)
theorem gS.aJ (ok:G.ok)(h:gS G D x)(h2:x.r.aI=2):iq 0 G D x.r.id x.aK:=by
 unfold RX.aK fj.aW;split
 ·rename_i c;have at0:=h.aA.aD;have hb0:=h.aA.on.aA;obtain⟨G',e,g,s,m'⟩:=h.aA.a_ ok h2 c.1 c.2.1 c.2.2 (Q:=mJ x.r.bu ((x.r.id :: x.r.aC.map fV.aE).zip (x.r.aL :: x.r.aC.map fV.aD))) (J9 (by show 0<x.r.bu;omega)) (λv hv=>by
   simp only[mJ,Wr,WV,VD,List.zip_cons_cons,VP]at hv;obtain⟨p,⟨hp,hq⟩,rfl⟩:=hv;rcases hp with rfl | hp
   ·exact .inl rfl
   ·rw[List.zip_map',Wr]at hp;obtain⟨f,hf,rfl⟩:=hp;exact .inr ⟨f,hf,rfl,hq⟩)
  exact⟨G',e,g,h.aI g m',rfl,s⟩
 ·exact iq.aA ok h
theorem G9 (r:fj)(was:List fV)(last:Int):∀f∈(r.a_ was last).aC,f∈was\/(f.aC=last+1/\f.aD=0):=by
 intro f hf;simp only[fj.a_,Wr,WV]at hf;obtain⟨n,-,rfl⟩:=hf;unfold lp;cases e:was.find? λf=>decide (f.aE=n) with
 | none=>exact .inr ⟨rfl,rfl⟩
 | some w=>exact .inl (List.mem_of_find?_eq_some e)
theorem GS (x:RX)(kind:Int)(data:List Int):(x.aF kind data).r.id=x.r.id/\(x.aF kind data).r.aA=(x.r.bz ⟨x.r.aA.aC,kind,data⟩).aA/\(x.aF kind data).r.aF=x.r.aF/\(x.aF kind data).r.aE=x.r.aE/\(x.aF kind data).r.aI=x.r.aI/\(x.aF kind data).o.aD=x.o.aD/\∀f∈(x.aF kind data).r.aC,f∈x.r.aC\/(f.aC=x.r.aA.aA.aC+1/\f.aD=0):=by
 have e:x.r.aA.aA.aE x.r.aL [⟨x.r.aA.aC,kind,data⟩]=⟨x.r.aA.aA.aA,x.r.aA.aA.aD,x.r.aA.aA.es++[⟨x.r.aA.aC,kind,data⟩]⟩:=tJ _ _;unfold RX.aF;simp only[e];by_cases c:kind=2;·rw[U4 c];exact⟨rfl,rfl,rfl,rfl,rfl,rfl,G9 _ _ _⟩
 ·rw[U6 c];exact⟨rfl,rfl,rfl,rfl,rfl,rfl,λf hf=>.inl hf⟩
theorem gS.aO (ok:G.ok)(h:gS G D x)(h2:x.r.aI=2){kind:Int}{data:List Int}(hs:fU.aF ⟨x.r.aA.aC,kind,data⟩)(hc:kind=2->pb x.r.aM (im data).1/\x.r.aA.of.2<=x.r.aE):iq 1 G D x.r.id (x.aF kind data)/\(x.aF kind data).r.aI=2:=by obtain⟨e1,e2,e3,e4,e5,e6,e7⟩:=GS x kind data;obtain⟨G',u,g,s,f⟩:=h.aA.bD ok h2 (e:=⟨x.r.aA.aC,kind,data⟩) rfl hs (λz=>hc z.1);exact⟨⟨G',u,g,⟨f _ e1 e2 e3 e4 (e5.trans h2) e7,λm hm=>(h.aC m (by rw[e6]at hm;exact hm)).aC g (Wb _)⟩,e1,s⟩,e5.trans h2⟩
theorem gS.aG {n:Nat}(ok:G.ok)(h:iq n G D k x)(h2:x.r.aI=2):iq n G D k (x.on).aK/\(x.on).aK.r.aI=2:=by
 refine⟨h.aD (n':=0) λG' u g r e=>?_,?_⟩;·obtain⟨r1,e1⟩:=r.on u h2;have:=r1.aJ u (by rw[e1];exact h2);rw[e1,e]at this;exact this
 ·obtain⟨G',u,g,r,e,-⟩:=h;obtain⟨r1,e1⟩:=r.on u h2;show (x.on).r.aW.aI=2;unfold fj.aW;split;·show (x.on).r.aI=2;rw[e1];exact h2
  ·rw[e1];exact h2
theorem Ps (t:Int):fU.aF ⟨t,0,[]⟩:=⟨(λ_ h=>by cases h),Vk _,by show (0:Int)<=0;omega,by show (0:Int)<=2;omega⟩
theorem gS.aH (ok:G.ok)(h:gS G D x)(h1:x.r.aI=1)(hw:x.r.aM.aH x.r.aH=true):iq 1 G D x.r.id x.aN:=by
 obtain⟨y,hy⟩:∃y:RX,y={x with r:=({x.r with aI:=2,aV:=x.r.id,aN:=0,aH:=[],aC:=[]}:fj).a_ [] x.r.aL}:=⟨_,rfl⟩;have u:y.r.id=x.r.id:=by rw[hy];rfl
 have yh:y.r.aA=x.r.aA:=by rw[hy];rfl
 obtain⟨e1,e2,e3,e4,e5,e6,e7⟩:=GS y 0 [];obtain⟨G',C,g,s,f⟩:=h.aA.bE ok h1 hw (e:=⟨x.r.aA.aC,0,[]⟩) rfl (Ps _) (λz=>by cases z.1);have g1:iq 1 G D x.r.id (y.aF 0 []):=by
  refine⟨G',C,g,⟨f _ (e1.trans u) (by rw[e2];show (y.r.bz _).aA=_;unfold fj.bz;rw[yh]) (e3.trans (by rw[hy];rfl)) (e4.trans (by rw[hy];rfl)) (e5.trans (by rw[hy];rfl)) ?_,λm hm=>(h.aC m (by rw[e6,hy]at hm;exact hm)).aC g (Wb _)⟩,e1.trans u,s⟩;intro f hf;rcases e7 f hf with z | z
  ·rw[hy]at z;rcases G9 _ _ _ f z with z | z;·cases z
   ·exact .inr z
  ·rw[yh]at z;exact .inr z
 have e:x.aN=((y.aF 0 []).on).aK:=by rw[hy];rfl
 rw[e];exact (gS.aG ok g1 (e5.trans (by rw[hy];rfl))).1
theorem SJ {l:List fJ}:∀{x:RX},gS G D x->(∀m∈l,kD G D {m with aC:=x.r.id,aL:=x.r.aA.aE,aG:=x.r.aA.aC})->gS G D (x.aL l)/\(x.aL l).r=x.r:=by
 induction l with
 | nil=>intro x h _;exact⟨h,rfl⟩
 | cons m l ih=>intro x h hl;exact ih (h.aD (hl m (by simp))) (λa ha=>hl a (by simp[ha]))
theorem gS.aQ (ok:G.ok)(h:gS G D x)(u:Int):iq 2 G D x.r.id (x.aW u):=by
 obtain⟨z,hz⟩:∃z:RX,z=⟨{x.r with aA:={x.r.aA with aC:=x.r.aA.aC+1,aF:=x.r.id},aI:=1,aV:=0,aK:=0,aX:=mi u,aC:=[],aH:=[x.r.id]},(x.aX {gi.aI with aC:=1,aK:=x.r.aA.aC+1,aL:=x.r.id}).o⟩:=⟨_,rfl⟩;obtain⟨G',C,g,sl,st,c',m'⟩:=h.aA.bH ok (by have:=h.aA.id;omega) (mi u) 0;have rz:gS G' D z:=by rw[hz];exact⟨m',λm hm=>(h.aC m hm).aC g (Wb _)⟩
 have E:z.r.id=x.r.id:=by rw[hz]
 have e:x.aW u=if z.r.aM.aH z.r.aH then z.aN else z.aL (kh z.r.id z.r.aA.aE z.r.aA.aC z.r.aA.aA z.r.aM):=by rw[hz];rfl
 rw[e];by_cases c:z.r.aM.aH z.r.aH=true;·rw[U4 c];obtain⟨G2,I,g2,r2,e2,s2⟩:=rz.aH C (by rw[hz]) c;rw[E]at g2 e2;exact⟨G2,I,g.aM g2,r2,e2,λB sB=>s2 (B+1) ⟨λt w hw=>Nat.le_succ_of_le (sB.1 t w (by rw[<-sl];exact hw)),by have:=sB.2;omega⟩⟩
 ·rw[U6 c];have fz:gn D z.r=gn D x.r:=by rw[hz]
  obtain⟨r2,e2⟩:=SJ (l:=kh z.r.id z.r.aA.aE z.r.aA.aC z.r.aA.aA z.r.aM) rz (λm hm=>by
   simp only[kh,Wr]at hm;obtain⟨n,-,rfl⟩:=hm;refine⟨⟨rz.aA.id,⟨Vk _,λ_=>rfl⟩,⟨(λ_ h=>by cases h),Vk _⟩,⟨?_,?_⟩,(λe=>absurd e (by show ¬(3:Int)<=1;omega))⟩,λ_=>⟨gn D x.r,?_,?_,?_⟩,(λe=>by cases e),(λe=>by cases e),(λe=>by cases e),(λe=>by cases e)⟩;·show 0<=z.r.aA.aA.aL;rw[rz.aA.on.aG];have:=Cw C rz.aA.aC (gn D z.r).length;rw[VB]at this;exact this
   ·show z.r.aA.aA.aL<=z.r.aA.aC;rw[rz.aA.on.aG];have:=Cv rz.aA.le rz.aA.aF (gn D z.r).length;rw[VB]at this;exact this
   ·show G'.aG z.r.aA.aC z.r.id=_;rw[hz];exact c'
   ·show z.r.aA.aA.aC=_;rw[<-fz];exact rz.aA.aQ.symm
   ·show z.r.aA.aA.aL=_;rw[<-fz];exact rz.aA.on.aG)
  exact⟨G',C,g,r2,by rw[e2];exact E,λB sB=>⟨λt w hw=>Vh (sB.1 t w (by rw[<-sl];exact hw)) (V6 _ _),by have:=sB.2;omega⟩⟩
end
end Glb
