/-
  A library of its own.
-/
import Derived.Test.YtdeiamnhnfmilaaGreatGlbLivA
set_option linter.unusedSimpArgs false
set_option linter.unusedVariables false
set_option maxRecDepth 10000
namespace Glb
open Go
structure xG (g:Int)(x:fM):Prop where
 sy:∃t,∀i,V3 i->(x.M i).aA.aC=t/\(x.M i).aE≠2
 g:V3 g/\∀j,V3 j->(x.M j).aA.aA.aM (x.M g).aA.aA.aC (x.M g).aA.aA.aL=true
def rM (w i:Int):Int:=if i<w then i else i-w
section
variable {T t p g:Int} {S:Int->fy} {L:Int->List fF} {N k:Nat} {P:Int} {x x':fM}
theorem Ia (h:gC N k P x)(sm:oU N k P)(r0:R0 x)(id:xG g x):(∃t l,V3 l/\SS t l x.aF)\/(xG g x.aF/\∃D:Int->Prop,(∀i,V3 i->(D i->(x.M i).aT<=(x.M i).aF+1/\(x.aF.M i).aF=0/\(x.aF.M i).aT=k_ (3*i))/\(¬D i->(x.M i).aF+1<(x.M i).aT/\(x.aF.M i).aF=(x.M i).aF+1/\(x.aF.M i).aT=(x.M i).aT))/\(D g->∀i,V3 i->D i)):=by
 have u:=sm;obtain⟨s1,s2,s3⟩:=u;obtain⟨t,sy⟩:=id.sy;obtain⟨g3,gn⟩:=id.g;obtain⟨h1,S,L,tk⟩:=h.aE ω ω ω;have w:=λi (hi:V3 i)=>((tk.aA i ω).1).aA;have E:=λi (hi:V3 i)=>(h.aA i ω).2;have nl:=λi hi=>(sy i hi).2;have tick:∀i,V3 i->((S i).aA.aC=t+1->(x.M i).aT<=(x.M i).aF+1/\(S i).aF=0/\(S i).aT=k_ (3*i)/\(S i).aA.aA=(x.M i).aA.aA)/\(¬(S i).aA.aC=t+1->(x.M i).aF+1<(x.M i).aT/\(S i).aF=(x.M i).aF+1/\(S i).aT=(x.M i).aT/\(S i).aA=(x.M i).aA/\(S i).aE≠2/\L i=[]):=λi hi=>by
  rcases w i hi with⟨z1,z2,z3,z4,z5,z6⟩ | ⟨z1,z2,z3,z4,z5,z6⟩;·refine⟨λ_=>⟨z4,by rw[z5];rfl,by rw[z5];rfl,by rw[z5];rfl⟩,λe=>absurd (by rw[z1,(sy i hi).1]) e⟩
  ·obtain⟨y1,y2,y3⟩:=z5 (nl i hi);refine⟨λe=>?_,λ_=>⟨y3 (by rw[E i hi];omega),y1,z3,z1,by rw[z2];exact nl i hi,y2⟩⟩;rw[z1,(sy i hi).1]at e;omega
 by_cases st:∃c,V3 c/\(S c).aA.aC=t+1
 ·rcases JS h sm r0 (λi hi=>(sy i hi).1) tk st with⟨l,l1,l2⟩ | ⟨z1,z2⟩;·exact .inl ⟨_,l,l1,l2⟩
  ·have log:∀i,V3 i->(x.aF.M i).aA.aA=(x.M i).aA.aA:=λi hi=>by
    obtain⟨-,-,y3,y4⟩:=z1 i hi;by_cases e:(S i).aA.aC=t+1;·rw[y3 e];exact ((tick i hi).1 e).2.2.2
    ·rw[y4 e nl,(qA _ _).1,((tick i hi).2 e).2.2.2.1]
   refine .inr ⟨⟨⟨t+1,λi hi=>⟨(z1 i hi).1,(z1 i hi).2.1⟩⟩,g3,λj hj=>by rw[log j hj,log g g3];exact gn j hj⟩,λi=>(S i).aA.aC=t+1,λi hi=>⟨λe=>?_,λe=>?_⟩,λe i hi=>W6 λc=>?_⟩;·rw[(z1 i hi).2.2.1 e];obtain⟨q1,q2,q3,-⟩:=(tick i hi).1 e;exact⟨q1,q2,q3⟩
   ·rw[(z1 i hi).2.2.2 e nl];obtain⟨q1,q2,q3,-⟩:=(tick i hi).2 e;obtain⟨-,-,-,-,b5,b6,-⟩:=qA (S i) (t+1);exact⟨q1,b5.trans q2,b6.trans q3⟩
   ·have:=z2 nl g i g3 hi e c;rw[gn i hi]at this;cases this
 ·have ns:=λi (hi:V3 i) (e:(S i).aA.aC=t+1)=>st ⟨i,hi,e⟩;have qu:qk t (λ_=>True) S x.aH.M x.aH.aA:=by
   have M:=λi (hi:V3 i)=>tk.M i ω;have tm:∀i,V3 i->(S i).aA.aC=t:=λi hi=>by rw[((tick i hi).2 (ns i hi)).2.2.2.1];exact (sy i hi).1
   refine⟨λi hi=>by rw[M i hi,tm i hi];exact W9 _,λi hi _=>by rw[M i hi];exact ((tick i hi).2 (ns i hi)).2.2.2.2.1,λi hi _=>⟨M i hi,tm i hi⟩,λa ha e=>?_⟩;rcases wN tk ha with z | ⟨i,hi,z⟩
   ·obtain⟨m1,m2⟩:=h.aD a z;rcases r0.2 a z with k3 | k4;·exact absurd (r0.1 a z k3 (by rw[(sy _ m1.aC).1];exact e)) (nl _ m1.aC)
    ·exact .inl k4
   ·rw[((tick i hi).2 (ns i hi)).2.2.2.2.2]at z;cases z
  have q:=(qJ (J:=λM q=>qk t (λ_=>True) S M q) ω ω (λM m q s l hi w hc hm hl hid=>hi.aA w hm hl) 6 _ x.aH h1 ω qu).2;have e1:∀i,V3 i->x.aF.M i=S i:=λi hi=>(q.st i hi Xb).1;have log:∀i,V3 i->(x.aF.M i).aA=(x.M i).aA:=λi hi=>by rw[e1 i hi];exact ((tick i hi).2 (ns i hi)).2.2.2.1
  refine .inr ⟨⟨⟨t,λi hi=>⟨by rw[log i hi];exact (sy i hi).1,by rw[e1 i hi];exact ((tick i hi).2 (ns i hi)).2.2.2.2.1⟩⟩,g3,λj hj=>by rw[log j hj,log g g3];exact gn j hj⟩,λ_=>False,λi hi=>⟨λz=>z.elim,λ_=>?_⟩,λz=>z.elim⟩;rw[e1 i hi];obtain⟨q1,q2,q3,-⟩:=(tick i hi).2 (ns i hi);exact⟨q1,q2,q3⟩
inductive nP (n:Nat) (x:fM):Prop
 | aA (t l:Int) (h:V3 l/\SS t l x):nP n x
 | aF (g i:Int) (h:xG g x) (hi:0<=i/\i<=18) (hn:19<=n+i) (tm:∀j,V3 j->(x.M j).aT=10+3*j/\(x.M j).aF=rM (10+3*j) i) (h1:13<=i->g≠1) (h2:16<=i->g≠2):nP n x
 | aC (g e:Int) (h:xG g x) (he:e<=18/\e<=(x.M g).aF) (hn:39<=n+e):nP n x
 | aE (t l b:Int) (h:V3 l/\(x.M l).aE=2/\(x.M l).aM=b) (sy:∀i,V3 i->(x.M i).aA.aC=t) (hn:41<=n+b):nP n x
 | aG (T p b:Int) (h:um T p b x.M) (hn:43<=n+b):nP n x
 | aD (T p e:Int) (le:∀i,V3 i->(x.M i).aA.aC<=T/\((x.M i).aA.aC=T->(x.M i).aE≠2)) (hp:V3 p/\(x.M p).aA.aC=T) (he:e<=18/\e<=(x.M p).aF) (hn:61<=n+e):nP n x
theorem Q8 (l:Int->fG):∃g,V3 g/\∀j,V3 j->(l j).aM (l g).aC (l g).aL=true:=by
 have e:∀a b:Int,(l a).aM (l b).aC (l b).aL=true↔(l a).aL<(l b).aL\/((l b).aL=(l a).aL/\(l a).aC<=(l b).aC):=λa b=>by unfold fG.aM;simp only[Ys,Xs,XK]
 have f:∀g,(∀j,V3 j->(l j).aM (l g).aC (l g).aL=true)↔((l 1).aM (l g).aC (l g).aL=true/\(l 2).aM (l g).aC (l g).aL=true/\(l 3).aM (l g).aC (l g).aL=true):=λg=>⟨λh=>⟨h 1 ω,h 2 ω,h 3 ω⟩,λ⟨a,b,c⟩ j hj=>by rcases (by omega:j=1\/j=2\/j=3) with rfl | rfl | rfl<;>assumption⟩;by_cases c1:∀j,V3 j->(l j).aM (l 1).aC (l 1).aL=true;·exact⟨1,ω,c1⟩
 by_cases c2:∀j,V3 j->(l j).aM (l 2).aC (l 2).aL=true
 ·exact⟨2,ω,c2⟩
 refine⟨3,ω,(f 3).2 ?_⟩;rw[f,e,e,e]at c1 c2;rw[e,e,e];omega
theorem ER (h:gC N k P x)(sy:∀i,V3 i->(x.M i).aA.aC=t){n:Nat} (hn:41<=n\/(39<=n/\∀i,V3 i->(x.M i).aE≠2)):nP n x:=by
 by_cases c:∃l,V3 l/\(x.M l).aE=2
 ·obtain⟨l,l1,l2⟩:=c;have b:=h.aG (i:=l) ω;exact .aE t l _ ⟨l1,l2,rfl⟩ sy (hn.elim (λz=>ω) λz=>absurd l2 (z.2 l l1))
 ·obtain⟨g,g1,g2⟩:=Q8 λi=>(x.M i).aA.aA;exact .aC g 0 ⟨⟨t,λi hi=>⟨sy i hi,λz=>c ⟨i,hi,z⟩⟩⟩,g1,g2⟩ ⟨ω,(h.aF g ω).1⟩ ω
theorem nP.aH (h:gC N k P x)(sm:oU N k P)(r0:R0 x){n:Nat}(s:nP (n+1) x):nP n x.aF:=by
 have hx:=h;obtain⟨hc,-⟩:=Dn h sm;cases s with
 | aA t l h'=>exact .aA t l ⟨h'.1,h'.2.aA h sm⟩
 | aF g i h' hi hn tm h1 h2=>
  rcases Ia h sm r0 h' with⟨t,l,z⟩ | ⟨id,D,hD,hg⟩;·exact .aA t l z
  ·have g3:=h'.g.1;have one:=hD 1 ω;have two:=hD 2 ω;have E:=hD 3 ω;obtain⟨a1,a2⟩:=tm 1 ω;obtain⟨b1,b2⟩:=tm 2 ω;obtain⟨c1,c2⟩:=tm 3 ω;have nD:¬D g:=λz=>by have y1:=(one.1 (hg z 1 ω)).1;have y3:=(E.1 (hg z 3 ω)).1;unfold rM at a2 c2;split at a2<;>split at c2<;>omega
   have ng:∀j,V3 j->(x.M j).aT<=(x.M j).aF+1->g≠j:=λj hj hh e=>by have:=((hD j hj).2 (by rw[<-e];exact nD)).1;omega
   have k1:13<=i+1->g≠1:=λz=>by
    by_cases c:13<=i
    ·exact h1 c
    ·refine ng 1 ω ?_;unfold rM at a2;rw[WW ω]at a2;omega
   have k2:16<=i+1->g≠2:=λz=>by
    by_cases c:16<=i
    ·exact h2 c
    ·refine ng 2 ω ?_;unfold rM at b2;rw[WW ω]at b2;omega
   have k3:i≠18:=λz=>by have n3:g≠3:=ng 3 ω (by unfold rM at c2;rw[WW ω]at c2;omega);have:=k1 ω;have:=k2 ω;omega
   refine .aF g (i+1) id ω ω (λj hj=>?_) k1 k2;obtain⟨q1,q2⟩:=tm j hj;have w3:k_ (3*j)=10+3*j:=by unfold k_;omega
   by_cases d:D j
   ·obtain⟨y1,y2,y3⟩:=(hD j hj).1 d;refine⟨by rw[y3,w3],?_⟩;rw[y2];unfold rM at q2 ⊢;split at q2<;>split<;>omega
   ·obtain⟨y1,y2,y3⟩:=(hD j hj).2 d;refine⟨y3.trans q1,?_⟩;rw[y2,q2];unfold rM at q2 ⊢;split at q2<;>split<;>omega
 | aC g e h' he hn=>
  rcases Ia h sm r0 h' with⟨t,l,z⟩ | ⟨id,D,hD,hg⟩;·exact .aA t l z
  ·have g3:=h'.g.1;by_cases d:D g
   ·refine .aF g 0 id ω ω (λj hj=>?_) ω ω;obtain⟨-,y2,y3⟩:=(hD j hj).1 (hg d j hj);have w3:k_ (3*j)=10+3*j:=by unfold k_;omega
    refine⟨by rw[y3,w3],?_⟩;rw[y2];unfold rM;rw[WW ω]
   ·obtain⟨y1,y2,-⟩:=(hD g g3).2 d;have:=(h.aA g ω).1.aE;exact .aC g (e+1) id ⟨ω,ω⟩ ω
 | aE t l b h' sy hn=>
  obtain⟨l1,l2,l3⟩:=h';have hb:=h.aG (i:=l) ω;obtain⟨s1,s2,s3⟩:=sm;obtain⟨-,S,L,tk⟩:=h.aE ω ω ω;by_cases st:∃c,V3 c/\(S c).aA.aC=t+1
  ·rcases JS h ⟨s1,s2,s3⟩ r0 sy tk st with⟨l,z⟩ | ⟨z,-⟩;·exact .aA (t+1) l z
   ·exact ER hc (λi hi=>(z i hi).1) (.inr ⟨ω,λi hi=>(z i hi).2.1⟩)
  ·have nl:∀i,V3 i->i≠l->(x.M i).aE≠2:=λi hi I z=>I (h.aW ω ω z l2 (by rw[sy i hi,sy l l1]));have ru:iZ t l b x.M x.aA:=⟨⟨l1,l2,l3⟩,sy,nl,r0.2,λa ha k3 e=>by have am:=(h.aD a ha).1;have:=r0.1 a ha k3 (by rw[sy _ am.aC];exact e);exact W6 λc=>nl _ am.aC c this⟩;obtain⟨a1,a2⟩:=EG h ⟨s1,s2,s3⟩ ru ω (λS' L' u i hi=>by
    have e:S' i=S i:=(u.M i ω).symm.trans (tk.M i ω);rw[e];rcases ((tk.aA i ω).1).aA with z | z;·exact absurd ⟨i,hi,by rw[z.1,sy i hi]⟩ st
    ·exact z.1)
   rcases hb with z | z;·have r1:=(a2 ω).1;exact .aE t l 1 r1.r2 r1.tm ω
   ·exact .aA t l ⟨l1,a1 ω⟩
 | aG T p b h' hn=>
  obtain⟨p1,p2,p3,p4⟩:=h'.p;have hb:=h.aG (i:=p) ω;rcases Io h sm r0 h'.le ⟨p1,p2⟩ (.inl p3) with⟨t,z⟩ | ⟨-,z1,z2⟩ | ⟨-,-,-,-,z⟩;·exact ER hc z (.inl ω)
  ·exact .aG T p 1 z2 ω
  ·exact absurd p3 z
 | aD T p e le hp he hn=>
  rcases Io h sm r0 (λi hi=>(le i hi).1) hp (.inr λi hi=>(le i hi).2) with⟨t,z⟩ | ⟨z,-⟩ | ⟨z1,z2,z3,z4,-⟩;·exact ER hc z (.inl ω)
  ·exact absurd z ((le p hp.1).2 hp.2)
  ·exact .aD T p (e+1) z1 ⟨hp.1,z2⟩ ⟨ω,ω⟩ ω
theorem Ox (h:gC N k P x):nP 61 x:=by
 obtain⟨p,p3,pm⟩:∃p,V3 p/\∀i,V3 i->(x.M i).aA.aC<=(x.M p).aA.aC:=by
  by_cases c1:(x.M 2).aA.aC<=(x.M 1).aA.aC/\(x.M 3).aA.aC<=(x.M 1).aA.aC
  ·exact⟨1,ω,λi hi=>by rcases (by omega:i=1\/i=2\/i=3) with rfl | rfl | rfl<;>omega⟩
  by_cases c2:(x.M 1).aA.aC<=(x.M 2).aA.aC/\(x.M 3).aA.aC<=(x.M 2).aA.aC
  ·exact⟨2,ω,λi hi=>by rcases (by omega:i=1\/i=2\/i=3) with rfl | rfl | rfl<;>omega⟩
  ·exact⟨3,ω,λi hi=>by rcases (by omega:i=1\/i=2\/i=3) with rfl | rfl | rfl<;>omega⟩
 by_cases c:∃l,V3 l/\(x.M l).aA.aC=(x.M p).aA.aC/\(x.M l).aE=2
 ·obtain⟨l,l1,l2,l3⟩:=c;have hb:=h.aG (i:=l) ω;exact .aG (x.M p).aA.aC l _ ⟨pm,l1,l2,l3,rfl⟩ ω
 ·exact .aD (x.M p).aA.aC p 0 (λi hi=>⟨pm i hi,λe z=>c ⟨i,hi,e,z⟩⟩) ⟨p3,rfl⟩ ⟨ω,(h.aF p ω).1⟩ ω
end
section
variable {r s:fy} {m:fF} {ls:List fF} {N c:Nat} {P:Int} {x:fM} {l j t:Int}
theorem gC.aH (h:gC N c P x):∃G D,G.ok/\(∀i,1<=i/\i<=5->gN G D (x.M i))/\(∀m∈x.aA,lJ G D m):=by
 have l5:=h.l5;obtain⟨⟨G,-,ok,-,-,hm,hp,-⟩,-⟩:=h.ok;refine⟨G,x.aC,ok,λi hi=>?_,hp⟩;have e:x.M i=x.l[(i-1).toNat]' ω:=by have:=fM.aM (x:=x) (k:=(i-1).toNat) ω;rw[show (((i-1).toNat:Nat):Int)+1=i by omega]at this;exact this
 rw[e];exact hm _ _
theorem OO {D:Es}{r:fy}(h:r.aA.aA.aA=0):gj D r=r.aA.aA.es:=by unfold gj gU;rw[h];rfl
theorem gC.aT (h:gC N c P x)(hl:V3 l)(hj:V3 j)(l2:(x.M l).aE=2)(lt:(x.M l).aA.aC=t)(jt:(x.M j).aA.aC=t)(j2:(x.M j).aE≠2)(hm:m∈x.aA)(k3:m.aC=3)(mt:m.aD=t)(O:m.to=j)(mf:m.aE=l)(w:iD (x.M m.to) m s ls):
  ∃a,ls=[a]/\a.aC=4/\a.aE=j/\a.to=l/\a.aD=t/\((a.ok=true/\a.aA=m.aA+m.es.length/\min m.aI a.aA<=s.aD)\/(a.ok=false/\a.aA+1<=m.aA/\∀f∈(x.M l).aC,f.aA=j->f.aC<m.aA)):=by
 obtain⟨G,D,ok,mem,msg⟩:=h.aH;rw[O]at w;have b:(x.M j).aK m.aD=x.M j:=ni ω;obtain⟨cl,idl⟩:=h.aA l ω;obtain⟨cj,U⟩:=h.aA j ω;obtain⟨y,y1,y2,y3,y4,y5,y6⟩:=(msg m hm).aD k3;rw[mt]at y1;obtain⟨l0,q⟩:=(mem l ω).aK l2;rw[lt,y1]at q;injection q with q;have yl:y.l=gj D (x.M l):=by rw[q]
 cases w with
 | aJ h=>omega
 | aD h k=>omega
 | aE h k=>omega
 | aI h k=>omega
 | aH h k=>omega
 | aC h k=>omega
 | aF h k=>omega
 | aG h k g=>exact absurd g j2
 | aA h' k g y' hy a ls' hl'=>
  rw[b]at hy g;obtain⟨X,hX⟩:∃X:RX,X={r:={(x.M j).aW m.aE with aF:=0},o:=(x.M j).aH.o}:=⟨_,rfl⟩;rw[<-hX]at hy;have Xr:X.r={(x.M j).aW m.aE with aF:=0}:=by rw[hX]
  have Xo:X.o.aA=[]:=by rw[hX];rfl
  have Xh:X.r.aA=(x.M j).aA:=by rw[Xr];rfl
  have Xc:X.r.aD=(x.M j).aD:=by rw[Xr];rfl
  have mX:gN G D X.r:=by rw[Xr];exact ((mem j ω).aT m.aE).of rfl rfl rfl rfl rfl rfl rfl
  have fX:gj D X.r=gj D (x.M j):=by unfold gj;rw[Xh]
  have X0:X.r.aE=0/\X.r.aC=[]:=by rw[Xr];exact⟨rfl,rfl⟩
  have base0:X.r.aA.aA.aA=0:=by rw[Xh];exact cj.aA
  have I:∀(z:RX) ok i,z.r.id=j->z.r.aA=X.r.aA\/z.r.aA.aC=t/\z.r.aA.aE=1->z.o.aA=[]->∃a,(z.aQ m ok i).o.aA=[a]/\a.aC=4/\a.aE=j/\a.to=l/\a.aD=t/\a.ok=ok/\a.aA=i:=λz ok i e1 e2 e3=>by have t1:z.r.aA.aC=t:=e2.elim (λe=>by rw[e,Xh];exact jt) λe=>e.1;refine⟨_,(show z.o.aA++[_]=_ by rw[e3];rfl),rfl,e1,mf,t1,rfl,rfl⟩
  have E:X.r.id=j:=by rw[Xr];exact U
  have e1:=lF (l:=X.r.aA.aA) (i:=m.aA);unfold RX.aG at hy;rw[WY ω]at hy;by_cases c1:X.r.aA.aA.aF m.aA=false\/¬X.r.aA.aA.aJ m.aA=m.aH
  ·rw[WW c1]at hy;obtain⟨a',a1,a2,a3,a4,a5,a6,a7⟩:=I X false (max 0 (min X.r.aO (m.aA-1))) E (.inl rfl) Xo;have u:∀n:Int,0<=n->m.aA<=n->n.toNat<=y.l.length->y.l.take n.toNat<+:gj D X.r->False:=λn n0 hn W hp=>by
    have ln:=hp.length_le;rw[W7,XW W]at ln;have hlen:=mX.aP;have hh:X.r.aA.aA.aF m.aA=true:=lF.2 ⟨ω,ω⟩;rcases c1 with z | z;·rw[hh]at z;cases z
    ·refine z ?_;rw[mX.on.aD hh,y4];congr 1;have:=js hp (n:=m.aA.toNat) (by rw[W7];omega);rw[this,XM,XW ω]
   have m1:1<=m.aA:=W6 λz=>u 0 (W9 _) ω (Xm _) ς;refine⟨a',by rw[hl',hy];exact a1,a2,a3,a4,a5,.inr ⟨a6,by rw[a7];have:=X.r.aO;omega,λf hf hn=>W6 λz=>?_⟩⟩;obtain⟨f1,f2,f3⟩:=(mem l ω).aM f hf;have hll:=(mem l ω).aP;rcases f3 with f3 | f3;·omega
   ·rw[lt,hn]at f3;have ak:=mX.aI t f.aC.toNat (by rw[E];exact f3);rcases ak.2 y y1 with p | ⟨s',y',s1,s2,-⟩;·exact u f.aC ω ω (by rw[yl];omega) p
    ·rw[Xh]at s2;omega
  ·rw[WY c1]at hy;simp only[not_or,Bool.not_eq_false,Classical.not_not]at c1;obtain⟨c2,c3⟩:=c1;have c3:X.r.aA.aA.aJ m.aA=iU (y.l.take m.aA.toNat):=c3.trans y4;obtain⟨b1,b2,b3,b4⟩:=mX.aY ok (by rw[Xh,jt];exact y1) X0 c2 c3 y3 y5;simp only at hy;rw[WY (λz=>by have:=b1 z.1;omega)]at hy;obtain⟨Z,hZ⟩:∃z:RX,z=(if 0<X.r.aA.aA.aI m.aA m.es then ({X with r:={X.r with aA:={X.r.aA with aA:=X.r.aA.aA.aE m.aA m.es}}}:RX).aX {gE.aI with aC:=2,aE:=X.r.aA.aA.aI m.aA m.es,aA:=⟨0,0,(X.r.aA.aA.aE m.aA m.es).aH (X.r.aA.aA.aI m.aA m.es) (X.r.aA.aA.aE m.aA m.es).es.length⟩} else X):=⟨_,rfl⟩;rw[<-hZ]at hy;have z1:Z.r.id=j/\Z.r.aA.aC=t/\Z.r.aA.aE=1/\Z.o.aA=[]:=by
    rw[hZ];split;·exact⟨E,by show X.r.aA.aC=t;rw[Xh];exact jt,by show X.r.aA.aE=1;rw[Xh];exact cj.aC,Xo⟩
    ·exact⟨E,by rw[Xh];exact jt,by rw[Xh];exact cj.aC,Xo⟩
   obtain⟨a',a1,a2,a3,a4,a5,a6,a7⟩:=I {Z with r:={Z.r with aD:=max Z.r.aD (min m.aI (m.aA+m.es.length))}} true (m.aA+m.es.length) z1.1 (.inr ⟨z1.2.1,z1.2.2.1⟩) z1.2.2.2;refine⟨a',by rw[hl',hy];exact a1,a2,a3,a4,a5,.inl ⟨a6,a7,?_⟩⟩;rw[a7,hy];exact Int.le_max_right _ _
theorem iD.aN (w:iD r m s ls)(h2:r.aE=2)(hm:m.aD<=r.aA.aC)(cr:jg r):(∀f'∈s.aC,∃f∈r.aC,f.aA=f'.aA/\(f'=f\/(m.aC=4/\m.aD=r.aA.aC/\m.aE=f.aA/\f'=f.aE m)))/\(m.aC=4->m.aD=r.aA.aC->∀f'∈s.aC,f'.aA=m.aE->∃f∈r.aC,f.aA=m.aE/\f'=f.aE m):=by
 have b:=ni hm;have same:s.aC=r.aC->(∀f'∈s.aC,∃f∈r.aC,f.aA=f'.aA/\(f'=f\/(m.aC=4/\m.aD=r.aA.aC/\m.aE=f.aA/\f'=f.aE m))):=λe f' hf=>⟨f',by rw[<-e];exact hf,rfl,.inl rfl⟩;cases w with
 | aJ h=>exact⟨same rfl,λ_ e=>ω⟩
 | aD h k=>exact⟨same (by rw[b]),λk'=>ω⟩
 | aE h k=>exact⟨same (by rw[b]),λk'=>ω⟩
 | aI h k=>exact⟨same (by rw[b]),λk'=>ω⟩
 | aH h k g=>omega
 | aC h k g=>rw[b]at g;exact absurd h2 g
 | aF h k g i hi hn c a ls s hz hc hl=>
  have fl:s.aC=r.aC.set i (r.aC[i].aE m):=by rw[hz]
  have nd:(r.aC.map fS.aA).Pairwise (λa b=>a≠b):=by rw[cr.fl,WW h2];unfold jr;exact List.Pairwise.filter _ δ
  refine⟨λf' hf=>?_,λ_ _ f' hf E=>?_⟩
  ·rw[fl]at hf;rcases Y3 hf with z | z;·exact⟨f',z,rfl,.inl rfl⟩
   ·have:=(HW m (cr.nx _ (Xq hi))).1;exact⟨_,Xq hi,by rw[z,this],.inr ⟨k,h.symm,hn.symm,z⟩⟩
  ·rw[fl]at hf;obtain⟨i',u,e⟩:=YV.1 hf;rw[W4]at u;refine⟨_,Xq hi,hn,?_⟩;rw[<-e,Zu];split;·rfl
   ·rename_i ne;exfalso;rw[<-e,Zu,WY ne]at E;have e2:(r.aC.map fS.aA)[i]'(by simpa using hi)=(r.aC.map fS.aA)[i']'(by simpa using u):=by simp[hn,E]
    have pw:=YK.1 nd;rcases Nat.lt_or_gt_of_ne ne with z | z;·exact pw i i' (by simpa using hi) (by simpa using u) z e2
    ·exact pw i' i (by simpa using u) (by simpa using hi) z e2.symm
 | aG h k=>exact⟨same rfl,λk'=>ω⟩
 | aA h k g=>rw[b]at g;exact absurd h2 g
end
def qW (L:Int)(d e:Nat)(f:fS):Prop:=f.aD<=f.aC+1+d/\L<=f.aC+8*e
def qi (L:Int)(n:Nat)(f:fS):Prop:=∃d e:Nat,d+e<=n/\qW L d e f
theorem yW (f:fS)(a:fF):(f.aE a).aA=f.aA/\f.aC<=(f.aE a).aC/\(f.aE a).aD-(f.aE a).aC<=max 1 (f.aD-f.aC):=by
 unfold fS.aE;split
 ·split;·exact⟨rfl,by show f.aC<=max _ _;omega,by show max _ _-max _ _<=_;omega⟩
  ·exact⟨rfl,W9 _,by show max _ _-f.aC<=_;omega⟩
 ·exact⟨rfl,W9 _,ω⟩
theorem qW.aA {L:Int}{d e:Nat}{f:fS}(h:qW L d e f)(a:fF):qW L d e (f.aE a):=by obtain⟨-,h1,h2⟩:=yW f a;exact⟨by have:=h.1;omega,by have:=h.2;omega⟩
theorem qi.aA {L:Int}{n:Nat}{f:fS}(h:qi L n f)(a:fF):qi L n (f.aE a):=by obtain⟨d,e,h1,h2⟩:=h;exact⟨d,e,h1,h2.aA a⟩
theorem qW.aC {L i:Int}{d e len:Nat}{f:fS}{a:fF}(h:qW L d e f)(h1:f.aD<=L+1/\f.aC<=L)(hi:(L:Int)<=i+len+8*(e-1:Nat))(k:a.aC=4/\a.aE=f.aA)(g:(a.ok=true/\a.aA=i+len)\/(a.ok=false/\1<=d)):qi L (d+e-1) (f.aE a):=by
 have hh:=h.aA a;obtain⟨p1,p2⟩:=h;obtain⟨-,m1,m2⟩:=yW f a;by_cases e0:e=0;·subst e0;exact⟨0,0,ω,ω,ω⟩
 rcases g with⟨g1,g2⟩ | ⟨g1,g2⟩;·refine⟨d,e-1,ω,hh.1,?_⟩;unfold fS.aE;rw[WW k,WW g1];show L<=max _ _+_;omega
 ·refine⟨d-1,e,ω,?_,hh.2⟩;unfold fS.aE;rw[WW k,WY (by rw[g1];decide)];show max _ _<=f.aC+1+_;omega
section
variable {M:Int->fy} {m m0:fF} {o n q ls:List fF} {s r:fy} {b t l j:Int} {N c:Nat} {P:Int} {x:fM}
theorem iD.aS (w:iD r m s ls):r.aD<=s.aD:=by
 have b:=(qA r m.aD).2.2.2.2.2.2.1;cases w with
 | aJ=>exact W9 _
 | aD=>omega
 | aE=>show _<=(r.aK m.aD).aD;omega
 | aI=>omega
 | aH h k g a=>obtain⟨c,h1,e⟩:=qL r.bB;rw[e];exact h1
 | aC=>omega
 | aF h k g i hi hn c a l s hz hc hl=>
  rw[hc];split;·obtain⟨c,h1,e⟩:=qL ({r with aC:=r.aC.set i (r.aC[i].aE m)}:fy);rw[e];exact h1
  ·exact W9 _
 | aG=>exact W9 _
 | aA h k g y hy a l hl=>obtain⟨⟨-,-,-,-,-,-,-,-,-,-,-,u⟩,-⟩:=vZ ({r:={(r.aK m.aD).aW m.aE with aF:=0},o:=(r.aK m.aD).aH.o}:RX) m;rw[<-hy]at u;show _<=y.r.aD;have:(r.aK m.aD).aD<=y.r.aD:=u;omega
theorem zP {i:Int}(w:iD (M m.to) m s ls){z:Int}(h:z<=(M i).aD):z<=(iH M m.to s i).aD:=by
 by_cases e:i=m.to
 ·rw[e,iW];rw[e]at h;have:=w.aS;omega
 ·rw[jk e];exact h
theorem iZ.aC (ru:iZ t l b M (m :: q))(w:iD (M m.to) m s ls)(hc:∀i,1<=i/\i<=3->jg (M i)/\(M i).id=i)(hm:∀a∈m :: q,lU a/\a.aD<=(M a.aE).aA.aC){A:fS->Prop}(hA:∀f a,A f->A (f.aE a))(h:∀f∈(M l).aC,f.aA=j->A f):∀f∈(iH M m.to s l).aC,f.aA=j->A f:=by
 obtain⟨m1,m2⟩:=hm m XG;by_cases e:l=m.to
 ·rw[e,iW];intro f' hf hn;obtain⟨z,-⟩:=w.aN (by rw[<-e];exact ru.r2.2.1) (by rw[ru.tm _ m1.aA,<-ru.tm _ m1.aC];exact m2) (hc _ m1.aA).1;obtain⟨f,f1,f2,f3⟩:=z f' hf;have:=h f (by rw[e];exact f1) (f2.trans hn);rcases f3 with rfl | ⟨-,-,-,rfl⟩;·exact this
  ·exact hA _ _ this
 ·rw[jk e];exact h
theorem iZ.aD {lg:fG}(h:m.to=l->s.aR=(M l).aR/\s.aA.aA=(M l).aA.aA)(hl:(M l).aA.aA=lg):(iH M m.to s l).aA.aA=lg:=by
 by_cases e:l=m.to
 ·rw[e,iW,(h e.symm).2,hl]
 ·rw[jk e];exact hl
structure Fa (t l j:Int)(m0:fF)(d:Nat)(a:fF):Prop where
 k:a.aC=4/\a.aE=j/\a.to=l/\a.aD=t
 g:(a.ok=true/\a.aA=m0.aA+m0.es.length)\/(a.ok=false/\1<=d)
theorem LW (h:gC N c P x)(hN:N+3*c+3<2^25)(cb:10*(c:Int)+40<400000)(pb:P+40<400000)(ru:iZ t l b x.M x.aA)(hj:V3 j)(jl:j≠l){d:Nat}{mat:Int}{A:fS->Prop}(hA:∀f a,A f->A (f.aE a))(hf:∀f∈(x.M l).aC,f.aA=j->A f)(hmat:∀f,A f->mat<=f.aC)(hd:m0.aA<=mat+d)(hm0:m0∈x.aA/\m0.aC=3/\m0.aD=t/\m0.to=j/\m0.aE=l){C:Int->Int}(hC:∀i,V3 i->C i<=(x.M i).aD):
  gC (N+3*c) c P x.aE/\iZ t l b x.aE.M x.aE.aA/\(x.aE.M l).aA.aA=(x.M l).aA.aA/\(∀i,V3 i->C i<=(x.aE.M i).aD)/\(∀f∈(x.aE.M l).aC,f.aA=j->A f)/\∃a∈x.aE.aA,Fa t l j m0 d a/\(a.ok=true->min m0.aI (m0.aA+m0.es.length)<=(x.aE.M j).aD):=by
 obtain⟨h0,h3,h4,h5,h6⟩:=hm0;obtain⟨a,b1,b3,b4,b5,b2⟩:=zx h hN cb pb (I:=λM o n=>iZ t l b M (o++n)/\(M l).aA.aA=(x.M l).aA.aA/\(∀i,V3 i->C i<=(M i).aD)/\(∀f∈(M l).aC,f.aA=j->A f)/\(m0∈o\/∃a∈n,Fa t l j m0 d a/\(a.ok=true->min m0.aI (m0.aA+m0.es.length)<=(M j).aD))) ⟨by simpa using ru,rfl,hC,hf,.inl h0⟩ (λM m o n s ls hi w hc hm hl hid ⟨N',y,hy,yM,yp⟩=>by
  obtain⟨i1,i4,i5,i2,i3⟩:=hi;obtain⟨a1,-,a3,-⟩:=iZ.aA (q:=o++n) i1 w hm hl hid;rw[Xl]at a1;refine⟨a1,iZ.aD a3 i4,λi hi=>zP w (i5 i hi),iZ.aC (q:=o++n) i1 w hc hm hA i2,?_⟩;rcases i3 with z | ⟨a,ha,z1,z2⟩
  ·rcases XC.1 z with z | z
   ·subst z;refine .inr ?_;rw[<-yM]at w;obtain⟨a,rfl,e1,e2,e3,e4,e5⟩:=hy.aT (l:=l) (j:=j) (t:=t) i1.r2.1 hj (by rw[yM];exact i1.r2.2.1) (by rw[yM];exact i1.tm _ i1.r2.1) (by rw[yM];exact i1.tm _ hj) (by rw[yM];exact i1.nl _ hj jl) (by rw[yp];exact XG) h3 h4 h5 h6 w;refine⟨a,YO _ (XN.2 rfl),?_⟩;rcases e5 with⟨g1,g2,g3⟩ | ⟨g1,g2,g3⟩;·refine⟨⟨⟨e1,e2,e3,e4⟩,.inl ⟨g1,g2⟩⟩,λ_=>?_⟩;rw[h5,iW,<-g2];exact g3
    ·refine⟨⟨⟨e1,e2,e3,e4⟩,.inr ⟨g1,?_⟩⟩,λz=>(by rw[g1]at z;cases z)⟩;obtain⟨cl,idl⟩:=hc l i1.r2.1;have fl:=cl.fl;rw[WW i1.r2.2.1,idl]at fl;have:j∈(M l).aC.map fS.aA:=by rw[fl];exact pX.2 ⟨hj,jl⟩
     obtain⟨f,f1,f2⟩:=XO.1 this;have k1:=g3 f (by rw[yM];exact f1) f2;have k2:=hmat f (i2 f f1 f2);omega
   ·exact .inl z
  ·refine .inr ⟨a,Yu _ ha,z1,λg=>zP w (z2 g)⟩)
 exact⟨a,by simpa using b1,b3,b4,b5,b2.elim (λz=>(by cases z)) λz=>z⟩
theorem Pc (h:gC N c P x)(hN:N+3*c+3<2^25)(cb:10*(c:Int)+40<400000)(pb:P+40<400000)(ru:iZ t l b x.M x.aA){A B:fS->Prop}{a:fF}(ha:a∈x.aA)(k:a.aC=4/\a.aE=j/\a.to=l/\a.aD=t)(hA:∀f a,A f->A (f.aE a))(hB:∀f a,B f->B (f.aE a))(go:∀f,A f->f.aA=j->f.aD<=(x.M l).aA.aA.aC+1/\f.aC<=(x.M l).aA.aA.aC->B (f.aE a))(hf:∀f∈(x.M l).aC,f.aA=j->A f){C:Int->Int}(hC:∀i,V3 i->C i<=(x.M i).aD):
  gC (N+3*c) c P x.aE/\iZ t l b x.aE.M x.aE.aA/\(x.aE.M l).aA.aA=(x.M l).aA.aA/\(∀i,V3 i->C i<=(x.aE.M i).aD)/\∀f∈(x.aE.M l).aC,f.aA=j->B f:=by
 obtain⟨k1,k2,k3,k4⟩:=k;obtain⟨z,b1,b3,b4,-,b2⟩:=zx h hN cb pb (I:=λM o n=>iZ t l b M (o++n)/\(M l).aA.aA=(x.M l).aA.aA/\(∀i,V3 i->C i<=(M i).aD)/\(∀f∈(M l).aC,f.aA=j->A f)/\(a∈o\/∀f∈(M l).aC,f.aA=j->B f)) ⟨by simpa using ru,rfl,hC,hf,.inl ha⟩ (λM m o n s ls hi w hc hm hl hid ⟨N',y,hy,yM,yp⟩=>by
  obtain⟨i1,i0,i5,i2,i3⟩:=hi;obtain⟨a1,-,a3,-⟩:=iZ.aA (q:=o++n) i1 w hm hl hid;rw[Xl]at a1;refine⟨a1,iZ.aD a3 i0,λi hi=>zP w (i5 i hi),iZ.aC (q:=o++n) i1 w hc hm hA i2,?_⟩;rcases i3 with z | z
  ·rcases XC.1 z with z | z;·subst z;refine .inr ?_;rw[k3]at w ⊢;rw[iW];intro f' hf' hn;obtain⟨f,f1,f2,f3⟩:=(w.aN i1.r2.2.1 (by rw[i1.tm _ i1.r2.1,k4];exact W9 _) (hc _ i1.r2.1).1).2 k1 (by rw[i1.tm _ i1.r2.1];exact k4) f' hf' (hn.trans k2.symm);subst f3;obtain⟨G,D,-,mem,-⟩:=hy.aH;have lr:=i1.r2.1;have fb:=(mem l ω).aM f (by rw[yM];exact f1);rw[yM,i0]at fb;exact go f (i2 f f1 (f2.trans k2)) (f2.trans k2) ⟨fb.1.2,fb.2.1.2⟩
   ·exact .inl z
  ·exact .inr (iZ.aC (q:=o++n) i1 w hc hm hB z))
 exact⟨z,by simpa using b1,b3,b4,b2.elim (λz=>(by cases z)) λz=>z⟩
theorem JU (k:Nat)(h:gC N c P x)(hN:N+k*(3*c)+3<2^25)(cb:10*(c:Int)+40<400000)(pb:P+40<400000)(ru:iZ t l b x.M x.aA){B:fS->Prop}(hB:∀f a,B f->B (f.aE a))(hf:∀f∈(x.M l).aC,f.aA=j->B f){lg:fG}(hl:(x.M l).aA.aA=lg){C:Int->Int}(hC:∀i,V3 i->C i<=(x.M i).aD):
  (∀f∈((x.aI k).M l).aC,f.aA=j->B f)/\((x.aI k).M l).aA.aA=lg/\∀i,V3 i->C i<=((x.aI k).M i).aD:=
 (qJ (J:=λM q=>iZ t l b M q/\(∀f∈(M l).aC,f.aA=j->B f)/\(M l).aA.aA=lg/\∀i,V3 i->C i<=(M i).aD) cb pb (λM m q s ls hi w hc hm hl e=>by obtain⟨i1,i2,i3,i4⟩:=hi;obtain⟨a1,-,a3,-⟩:=i1.aA w hm hl e;exact⟨a1,i1.aC w hc hm hB i2,iZ.aD a3 i3,λi hi=>zP w (i4 i hi)⟩) k N x h hN ⟨ru,hf,hl,hC⟩).2.2
end
structure jK (t l b:Int)(lg:fG)(n:Nat)(x:fM):Prop where
 bb:b=0\/b=1
 ru:iZ t l b x.M x.aA
 fo:∀j,V3 j->j≠l->qS l b (x.M j)
 aH:(x.M l).aA.aA=lg
 fl:∀f∈(x.M l).aC,qi lg.aC n f
section
variable {r s:fy} {ls:List fF} {b t l j d:Int} {lg:fG} {n N k:Nat} {P:Int} {x:fM}
theorem mB.aH (w:mB r d s ls):s.aD=r.aD:=by cases w<;>rfl
theorem mB.aI (w:mB r d s ls)(h2:r.aE=2):s.aC=r.aC/\(r.aM=1->s={r with aM:=0}/\ls=r.aC.map r.a_):=by
 cases w with
 | aC=>exact⟨rfl,λ_=>⟨rfl,rfl⟩⟩
 | aF g h=>exact⟨rfl,λe=>ω⟩
 | aD g=>exact absurd h2 g
 | aE g=>exact absurd h2 g
theorem OE (h:jg r)(h2:r.aE=2){f g:fS}(hf:f∈r.aC)(hg:g∈r.aC)(e:f.aA=g.aA):f=g:=by
 have nd:(r.aC.map fS.aA).Pairwise (λa b=>a≠b):=by rw[h.fl,WW h2];unfold jr;exact List.Pairwise.filter _ δ
 rw[List.pairwise_map]at nd;obtain⟨i,hi,rfl⟩:=YV.1 hf;obtain⟨j,hj,rfl⟩:=YV.1 hg;have pw:=YK.1 nd;rcases Nat.lt_trichotomy i j with z | z | z;·exact absurd e (pw i j hi hj z)
 ·subst z;rfl
 ·exact absurd e.symm (pw j i hj hi z)
theorem U3 {L:fG}{i:Int}(h0:L.aA=0)(hi:1<=i){e:Nat}(hm:L.aC<=i-1+8*e):L.aC<=i-1+(L.aH i 8).length+8*(e-1:Nat):=by
 have lg:L.aC=L.aA+L.es.length:=rfl;unfold fG.aH;split;·rename_i c;show _<=i-1+(0:Nat)+_;omega
 ·rw[W7,Xk];show _<=i-1+((min 8 _:Nat):Int)+_;omega
theorem Mi (h:gC N k P x)(sm:oU N k P)(w:jK t l 1 lg n x)(hj:V3 j)(jl:j≠l):(∀f∈(x.aF.M l).aC,f.aA=j->qi lg.aC (n-1) f)/\(x.aF.M l).aA.aA=lg/\(∀i,V3 i->(x.M i).aD<=(x.aF.M i).aD)/\(n=0->(x.M l).aD=lg.aC->lg.aC<=(x.aF.M j).aD):=by
 obtain⟨-,ru,fo,wl,fl⟩:=w;obtain⟨s1,s2,s3⟩:=sm;obtain⟨h1,S,L,tk⟩:=h.aE ω ω ω;obtain⟨l1,l2,l3⟩:=ru.r2;obtain⟨cl,u⟩:=h.aA l ω;have ns:∀i,V3 i->(S i).aA=(x.M i).aA:=λi hi=>by
  rcases ((tk.aA i ω).1).aA with⟨-,z2,-,z4,-⟩ | z
  ·by_cases e:i=l
   ·rw[e]at z2;exact absurd l2 z2
   ·have:=(fo i hi e).el;have:=(h.aA i ω).1.aE;omega
  ·exact z.1
 have r1:=ru.aE h tk ns;have cm:∀i,V3 i->(x.M i).aD<=(x.aH.M i).aD:=λi hi=>by rw[tk.M i ω,(tk.aA i ω).1.aH];exact W9 _
 obtain⟨sl,Ll⟩:=((tk.aA l ω).1.aI l2).2 l3;have fs:(x.aH.M l).aC=(x.M l).aC/\(x.aH.M l).aA.aA=lg:=by rw[tk.M l ω,sl];exact⟨rfl,wl⟩
 have U:j∈(x.M l).aC.map fS.aA:=by rw[cl.fl,WW l2,u];exact pX.2 ⟨hj,jl⟩
 obtain⟨f,f1,f2⟩:=XO.1 U;obtain⟨d,e,de,nd⟩:=fl f f1;have one:∀g∈(x.aH.M l).aC,g.aA=j->g=f:=λg g1 g2=>OE cl l2 (by rw[<-fs.1];exact g1) f1 (g2.trans f2.symm);obtain⟨O,fx2,fx3⟩:=cl.nx f f1;obtain⟨q1,q2,q3,q4,q5,q6,q7,q8,q9⟩:=pD cl.es cl.aA cl.aC (by rw[u];exact l1) (cl.aH f1).2 O;obtain⟨m0,I⟩:∃m0,m0=(x.M l).a_ f:=⟨_,rfl⟩;rw[<-I]at q1 q2 q3 q4 q5 q6 q7 q8 q9;have E:lg.aC<=m0.aA+m0.es.length+8*(e-1:Nat):=by rw[q6,q8,wl];exact U3 (by rw[<-wl];exact cl.aA) O (by have:=nd.2;omega)
 have post:m0∈x.aH.aA:=xj tk l1 (by rw[Ll,I];exact List.mem_map_of_mem f1);obtain⟨h2,r2,g2,c2,a2,a,ha,an,ac⟩:=LW h1 ω ω ω r1 hj jl (d:=d) (mat:=f.aC) (A:=λg=>qW lg.aC d e g/\f.aC<=g.aC) (λg a z=>⟨z.1.aA a,by have:=(yW g a).2.1;omega⟩) (λg g1 g2=>by rw[one g g1 g2];exact⟨nd,W9 _⟩) (λg z=>z.2) (by rw[q6];have:=nd.1;omega) ⟨post,q2,q5.trans (ru.tm l l1),q3.trans f2,q4.trans u⟩ cm;rw[fs.2]at g2;obtain⟨C,hC⟩:∃C:Int->Int,C=λi=>if i=j/\n=0/\(x.M l).aD=lg.aC then max (x.M i).aD lg.aC else (x.M i).aD:=⟨_,rfl⟩
 have Ci:∀i,(x.M i).aD<=C i:=λi=>by rw[hC];simp only;split<;>omega
 have Cj:n=0->(x.M l).aD=lg.aC->lg.aC<=C j:=λe1 e2=>by rw[hC];simp only;rw[WW ⟨Xb,e1,e2⟩];omega
 have c2:∀i,V3 i->C i<=(x.aH.aE.M i).aD:=λi hi=>by
  rw[hC];simp only;split
  ·rename_i cc;obtain⟨rfl,n0,e2⟩:=cc;have:a.ok=true:=by
    rcases an.g with z | z;·exact z.1
    ·omega
   have:=ac this;rw[q9,e2]at this;have:=c2 i hi;omega
  ·exact c2 i hi
 obtain⟨h3,r3,g3,c3,b3⟩:=Pc (A:=λg=>qW lg.aC d e g/\f.aC<=g.aC) (B:=qi lg.aC (n-1)) h2 ω ω ω r2 ha an.k (λg a z=>⟨z.1.aA a,by have:=(yW g a).2.1;omega⟩) (λg a z=>z.aA a) (λg z gn gb=>by rw[g2]at gb;obtain⟨d',e',y1,y2⟩:=z.1.aC (i:=m0.aA) (len:=m0.es.length) gb E ⟨an.k.1,an.k.2.1.trans gn.symm⟩ an.g;exact⟨d',e',ω,y2⟩) a2 c2;obtain⟨b4,g4,c4⟩:=JU 4 h3 ω ω ω r3 (B:=qi lg.aC (n-1)) (λg a z=>z.aA a) b3 (g3.trans g2) c3;exact⟨b4,g4,λi hi=>Y9 (Ci i) (c4 i hi),λe1 e2=>Y9 (Cj e1 e2) (c4 j hj)⟩
theorem jK.aA (h:gC N k P x)(sm:oU N k P)(w:jK t l b lg n x):∃b',jK t l b' lg (n-if b=1 then 1 else 0) x.aF/\(b=0->b'=1)/\(∀i,V3 i->(x.M i).aD<=(x.aF.M i).aD)/\(b=1->n=0->(x.M l).aD=lg.aC->∀j,V3 j->lg.aC<=(x.aF.M j).aD):=by
 have w0:=w;obtain⟨bb,ru,fo,wl,fl⟩:=w;obtain⟨b',E,u,I⟩:=SS.aA h sm ⟨b,bb,ru,fo⟩;obtain⟨hc,-⟩:=Dn h sm;obtain⟨l1,l2,l3⟩:=u.r2;have ex:∃j,V3 j/\j≠l:=by
  by_cases e:l=1
  ·exact⟨2,ω,ω⟩
  ·exact⟨1,ω,ω⟩
 have node:∀f∈(x.aF.M l).aC,V3 f.aA/\f.aA≠l:=λf hf=>by obtain⟨cc,ci⟩:=hc.aA l ω;obtain⟨-,z⟩:=cc.aH hf;rw[ci]at z;exact pX.1 z
 rcases bb with e | e
 ·subst e;obtain⟨s1,s2,s3⟩:=sm;obtain⟨h1,S,L,tk⟩:=h.aE ω ω ω;obtain⟨p1,p2,p3⟩:=ru.r2;have ns:∀i,V3 i->(S i).aA=(x.M i).aA:=λi hi=>by
   rcases ((tk.aA i ω).1).aA with⟨-,z2,-,z4,-⟩ | z
   ·by_cases e:i=l
    ·rw[e]at z2;exact absurd p2 z2
    ·have:=(fo i hi e).el;have:=(h.aA i ω).1.aE;omega
   ·exact z.1
  have r1:=ru.aE h tk ns;have cm:∀i,V3 i->(x.M i).aD<=(x.aH.M i).aD:=λi hi=>by rw[tk.M i ω,(tk.aA i ω).1.aH];exact W9 _
  have fs:(x.aH.M l).aC=(x.M l).aC/\(x.aH.M l).aA.aA=lg:=by rw[tk.M l ω,ns l p1];exact⟨(tk.aA l ω).1.aI p2 |>.1,wl⟩
  have st:=λj=>JU (j:=j) 6 h1 ω ω ω r1 (B:=qi lg.aC n) (λg a z=>z.aA a) (λg g1 _=>fl g (by rw[<-fs.1];exact g1)) fs.2 cm;have one:b'=1:=by have:=((EG h ⟨s1,s2,s3⟩ ru (.inl rfl) (λS' L' O i hi=>by have e:S' i=S i:=(O.M i ω).symm.trans (tk.M i ω);rw[e,ns i hi])).2 rfl).1.r2.2.2;rw[l3]at this;exact this
  exact⟨b',⟨E,u,I,(st 0).2.1,λf hf=>(st f.aA).1 f hf rfl⟩,λ_=>one,(st 0).2.2,λe=>ω⟩
 ·subst e;have bc:=λj hj jl=>Mi h sm w0 (j:=j) hj jl;obtain⟨j0,j1,j2⟩:=ex;obtain⟨-,b2,b3,-⟩:=bc j0 j1 j2;refine⟨b',⟨E,u,I,b2,λf hf=>(bc _ (node f hf).1 (node f hf).2).1 f hf rfl⟩,ω,b3,λ_ e1 e2 j hj=>?_⟩;by_cases e:j=l;·subst e;have:=b3 j hj;omega
  ·exact (bc j hj e).2.2.2 e1 e2
end
section
variable {b t l j:Int} {lg:fG} {n N k:Nat} {P:Int} {x:fM}
theorem UW {i L:Int}(h:V3 i)(h0:0<L):C3.aJ (i :: jr i) (L :: (jr i).map λ_=>L)=L:=by
 obtain⟨v,hv⟩:∃v,v=C3.aJ (i :: jr i) (L :: (jr i).map λ_=>L):=⟨_,rfl⟩;have e:(i :: jr i).zip (L :: (jr i).map λ_=>L)=(i :: jr i).map λn=>(n,L):=by rcases (by omega:i=1\/i=2\/i=3) with rfl | rfl | rfl<;>rfl
 have y:lS L ((i :: jr i).map λn=>(n,L))=i :: jr i:=by unfold lS;rw[List.filter_eq_self.2 (λp hp=>by obtain⟨q,-,rfl⟩:=XO.1 hp;exact WZ (W9 L)),List.map_map];exact List.map_id _
 have w:C3.aE (i :: jr i)=true:=yX (P:=λi=>C3.aE (i :: jr i)=true) h δ δ δ;have h1:L<=v:=by rw[hv];exact Lz (k:=0) ς ς (by show C3.aE (lS L _)=true;rw[e,y];exact w)
 have h2:=Ly (x:=C3) (n:=i :: jr i) (r:=L :: (jr i).map λ_=>L) (by rw[<-hv];omega);rw[<-hv]at h2 ⊢;rcases XC.1 h2 with z | z;·exact z
 ·obtain⟨-,-,z⟩:=XO.1 z;exact z.symm
theorem jK.aE (h:gC N k P x)(w:jK t l b lg 0 x):(x.M l).aD=lg.aC/\0<lg.aC:=by
 obtain⟨-,ru,-,wl,fl⟩:=w;obtain⟨l1,l2,-⟩:=ru.r2;obtain⟨cl,E⟩:=h.aA l ω;obtain⟨G,D,ok,mem,-⟩:=h.aH;have ml:=mem l ω;obtain⟨l0,q⟩:=ml.aK l2;obtain⟨t0,q2,q3,q4,-⟩:=ok.aA _ _ q;have q3:l0.length<(gj D (x.M l)).length:=q3;have q4:∀i (h:i<(gj D (x.M l)).length),l0.length<=i->(gj D (x.M l))[i].aA=(x.M l).aA.aC:=q4;have len:=ml.aP;have last:iU (gj D (x.M l))=(x.M l).aA.aC:=by rw[rQ ω];exact q4 _ _ ω
 have pos:0<lg.aC:=by rw[<-wl,<-len];omega
 have bl:=cl.aA;have I:=ml.aA.2.2;have u:(x.M l).aC.map fS.aC=(jr l).map λ_=>lg.aC:=by
  have e:(x.M l).aC.map fS.aC=((x.M l).aC.map fS.aA).map λ_=>lg.aC:=by rw[List.map_map];refine List.map_congr_left λf hf=>?_;obtain⟨d,e,de,-,z⟩:=fl f hf;have:=(ml.aM f hf).2.1.2;rw[wl]at this;show f.aC=lg.aC;omega
  rw[e,cl.fl,WW l2,E]
 have st:(x.M l).bC=lg.aC:=by unfold fy.bC;rw[cl.aJ,u,cl.fl,WW l2,E,show (x.M l).aO=lg.aC by rw[<-wl];rfl];exact UW l1 pos
 have still:=(cl.ld l2).2;unfold fy.bK at still;rw[st]at still;have hh:(x.M l).aA.aA.aF lg.aC=true:=lF.2 ⟨ω,by rw[wl];exact W9 _⟩;have ht:(x.M l).aA.aA.aJ lg.aC=(x.M l).aA.aC:=by rw[ml.on.aD hh,<-last];congr 1;have len:((gU D (x.M l).aA.aA).length:Int)=(x.M l).aA.aA.aC:=len;exact Xu (by rw[<-wl];omega)
 refine⟨?_,pos⟩;have:¬(x.M l).aD<lg.aC:=λz=>still ⟨z,hh,ht⟩;rw[wl]at I;omega
theorem UA (h:gC N k P x)(ru:iZ t l b x.M x.aA)(hj:V3 j)(pos:0<(x.M l).aA.aA.aC)(hc:(x.M l).aA.aA.aC<=(x.M j).aD):(x.M j).aA.aA=(x.M l).aA.aA/\(x.M j).aD=(x.M l).aA.aA.aC:=by
 obtain⟨l1,l2,-⟩:=ru.r2;obtain⟨cl,-⟩:=h.aA l ω;obtain⟨cj,-⟩:=h.aA j ω;obtain⟨G,D,ok,mem,-⟩:=h.aH;have ml:=mem l ω;have mj:=mem j ω;obtain⟨l0,q⟩:=ml.aK l2;obtain⟨-,-,q3,q4,-⟩:=ok.aA _ _ q;have q3:l0.length<(gj D (x.M l)).length:=q3;have q4:∀i (h:i<(gj D (x.M l)).length),l0.length<=i->(gj D (x.M l))[i].aA=(x.M l).aA.aC:=q4;have tl:=ru.tm l l1;have tj:=ru.tm j hj;have lenl:=ml.aP;have lenj:=mj.aP;have atj:=mj.aA.2.2;obtain⟨a1,a2⟩:=ok.aF mj.aC (by rw[tj,<-tl];exact q);have a1:(gj D (x.M j)).take (x.M j).aD.toNat=(gj D (x.M l)).take (x.M j).aD.toNat:=a1;have a2:(x.M j).aD.toNat<=(gj D (x.M l)).length:=a2;have E:(x.M j).aD=(x.M l).aA.aA.aC:=ω;have u:gj D (x.M j)=gj D (x.M l):=by
  have e:(gj D (x.M j)).take (gj D (x.M l)).length=gj D (x.M l):=by rw[show (x.M j).aD.toNat=(gj D (x.M l)).length by omega,XF]at a1;exact a1
  by_cases c:(gj D (x.M j)).length<=(gj D (x.M l)).length
  ·rw[Xu c]at e;exact e
  ·exfalso;obtain⟨i,hi⟩:∃i,i=(gj D (x.M j)).length-1:=⟨_,rfl⟩;have il:i<(gj D (x.M j)).length:=ω;obtain⟨r',f1,f2,f3⟩:=mj.aD i il;have g1:=EF mj.aG (i:=(gj D (x.M l)).length-1) (j:=i) ω il;have g2:=mj.le _ (Xq il);have g3:((gj D (x.M j))[(gj D (x.M l)).length-1]' ω).aA=t:=by have:=mO (a:=gj D (x.M j)) (b:=gj D (x.M l)) (n:=(gj D (x.M l)).length) (i:=(gj D (x.M l)).length-1) (by rw[e,XF]) ω;rw[WU ω,WU ω]at this;injection this with this;rw[this];exact (q4 _ ω ω).trans tl
   have e1:(gj D (x.M j))[i].aA=(x.M l).aA.aC:=ω;rw[e1,q]at f1;injection f1 with f1;have:=pE f2 ω;rw[<-f1]at this;have:i+1<=(gj D (x.M l)).length:=this;omega
 have b0:∀r:fy,r.aA.aA.aA=0->r.aA.aA.on D->r.aA.aA=⟨0,0,gj D r⟩:=λr e o=>by
  have e1:=OO (D:=D) e;have e2:=o.aE;rw[e]at e2;rw[e1];have e2:r.aA.aA.aD=0:=e2;rcases hl:r.aA.aA with⟨a,b,c⟩
  rw[hl]at e e2;have e:a=0:=e;have e2:b=0:=e2;subst e;subst e2;rfl
 exact⟨by rw[b0 _ cj.aA mj.on,b0 _ cl.aA ml.on,u],E⟩
def ub (lg:fG)(x:fM):Prop:=∀j,V3 j->(x.M j).aA.aA=lg/\(x.M j).aD=lg.aC
theorem jK.aI (h:gC N k P x)(w:jK t l b lg 0 x)(c:∀j,V3 j->lg.aC<=(x.M j).aD):ub lg x:=λj hj=>by have wl:=w.aH;obtain⟨-,pos⟩:=w.aE h;obtain⟨a1,a2⟩:=UA h w.ru hj (by rw[wl];exact pos) (by rw[wl];exact c j hj);rw[wl]at a1 a2;exact⟨a1,a2⟩
end
section
variable {r:fy} {N c:Nat} {P:Int} {x:fM} {k:Nat}
def fy.bF (r:fy)(data:List Int):fy:={r with aA:={r.aA with aA:={r.aA.aA with es:=r.aA.aA.es++[⟨r.aA.aC,1,data⟩]}}}
theorem jg.aL (h:jg r)(data:List Int)(he:(r.aP 1 data).2.2=0):r.aE=2/\∃c a,r.aD<=c/\(r.aP 1 data).2.1.r={r.bF data with aD:=c,aI:=a}/\({r.bF data with aD:=c,aI:=a}:fy).bK/\(r.aP 1 data).2.1.o.aA=r.aC.map (r.bF data).a_:=by
 unfold fy.aP at he ⊢;by_cases c1:¬r.aE=2;·rw[WW c1]at he;cases he
 rw[WY c1,WY ω]at he ⊢;rw[WY (λz=>absurd z.1 δ)]at he ⊢;by_cases c4:2^40<=r.aO;·rw[WW c4]at he;cases he
 rw[WY c4];have c1:r.aE=2:=Classical.not_not.1 c1;refine⟨c1,?_⟩;have hid:1<=r.id/\r.id<=3:=h.id.elim (λz=>z) λz=>ω;obtain⟨a1,b1⟩:=Ip r.aH (k:=1) δ data;obtain⟨a2,b2⟩:=Eg (r.aH.aF 1 data);have e1:(r.aH.aF 1 data).on.r=r.bF data:=a2.trans a1;have e2:(r.aH.aF 1 data).on.o.aA=r.aC.map (r.bF data).a_:=by rw[b2,b1,a1];show []++_=_;rw[Yg];rfl
 obtain⟨c,q1,q2⟩:=qL (r.bF data);have st:=EI (r.bF data);have es:((r.aH.aF 1 data).on).aM.r={r.bF data with aD:=c}:=by show (r.aH.aF 1 data).on.r.aY=_;rw[e1,q2]
 have nw:({r.bF data with aD:=c}:fy).aN=C3:=wQ (λe he=>by
  rcases Xe.1 he with z | z;·exact h.es e z
  ·rw[XN.1 z];exact (by decide:(1:Int)≠2)) h.aD
 obtain⟨p1,p2⟩:=wx (y:=((r.aH.aF 1 data).on).aM) (by rw[es];exact nw) (λ_=>by rw[es];exact hid);rw[es]at p1;rw[q2]at st;exact⟨c,_,q1,p1,st,p2.trans e2⟩
theorem gC.aP (h:gC N c P x)(hb:N<2^25) (cb:10*((c+1:Nat):Int)+40<400000) (pb:P+10+40<400000) (hk:k<x.l.length) {data:List Int} (hd:gT data/\data.length<=256) (he:(x.l[k].aP 1 data).2.2=0):gC (N+1) (c+1) (P+10) (x.aD k (x.l[k].aP 1 data).2.1)/\mT x x.l[k].aA x.l[k].aI (x.l[k].aP 1 data).2.1:=by
 have l5:=h.l5;obtain⟨o1,o2⟩:=h.ok.aK ω hk (kind:=1) hd ω (λz=>absurd z δ) he;obtain⟨cr,ir⟩:=h.aA (k+1) ω;have Mk:x.M ((k:Int)+1)=x.l[k]:=fM.aM hk;rw[Mk]at cr ir;obtain⟨c1,cc,a,q1,q2,q3,q4⟩:=cr.aL data he;have hid:1<=x.l[k].id/\x.l[k].id<=3:=cr.id.elim (λz=>z) λz=>ω;have ti:=h.aF (k+1) ω;rw[Mk]at ti;have hk':k<(x.aD k (x.l[k].aP 1 data).2.1).l.length:=by show k<(x.l.set k _).length;rw[W4];exact hk
 have ap:=(o1.aD k hk').2.2;have e:(x.aD k (x.l[k].aP 1 data).2.1).l[k]'hk'=(x.l[k].aP 1 data).2.1.r:=Yr ..;rw[e,q2]at ap;have es:∀e∈(x.l[k].bF data).aA.aA.es,e.aC≠2:=λe he=>by
  rcases Xe.1 he with z | z;·exact cr.es e z
  ·rw[XN.1 z];exact (by decide:(1:Int)≠2)
 have f2:x.l[k].aC.length=2:=by have:=Y5 List.length cr.fl;rw[WW c1,Xd,zt hid]at this;exact this
 have lst:(x.l[k].bF data).aA.aA.aC=x.l[k].aA.aA.aC+1:=by show x.l[k].aA.aA.aA+((x.l[k].aA.aA.es++[_]).length:Int)=x.l[k].aA.aA.aA+(x.l[k].aA.aA.es.length:Int)+1;rw[WT,XI];omega
 refine⟨h.aK (p:=x.aA) hk (λ_ z=>z) (K':=40000+1) (o1.aA ω (WX _)) ω cb ω (by rw[q2];exact W9 _) ?_ (λm hm=>?_) ?_ (λb h1 h2=>⟨b+1,ω,?_,?_⟩) ?_,o2⟩;·rw[q2];exact⟨cr.aA,cr.aD,es,cr.aC,ap,cr.id,cr.aI,cr.gr,cr.fl,cr.nx,cr.aE,cr.aG,λ_=>⟨(cr.ld c1).1,q3⟩⟩
 ·rw[q4]at hm;obtain⟨f,hf,rfl⟩:=XO.1 hm;rw[q2];exact zK (r:=x.l[k].bF data) es cr.aA cr.aC hid (cr.aH hf).2 (cr.nx f hf).1 rfl rfl c1
 ·rw[q2];show 0<=x.l[k].aF/\x.l[k].aF<=_;omega
 ·rw[q2];show (x.l[k].bF data).aA.aA.aC<=_;omega
 ·rw[q2];show 10*(b+1)+(if k<3 then x.l[k].aS-x.l[k].aS else 0)<=_;split<;>omega
 ·rw[q4,q2,Xd,f2];show (x.aA.length:Int)+(2:Nat)+(if k<3 then x.l[k].aQ-x.l[k].aQ else 0)<=_;split<;>omega
theorem gC.aR (h:gC N c P x)(hk:k<x.l.length)(d:Int):gC (N+1) c P {x with l:=x.l.set k (fy.aU (k+1) x.l[k].aA d)}:=by
 have l5:=h.l5;have u:=h.ok.aI hk d;obtain⟨cr,ir⟩:=h.aA (k+1) ω;have Mk:x.M ((k:Int)+1)=x.l[k]:=fM.aM hk;rw[Mk]at cr ir;have hM:({x with l:=x.l.set k (fy.aU (k+1) x.l[k].aA d)}:fM).M=iH x.M ((k:Int)+1) (fy.aU (k+1) x.l[k].aA d):=fM.aV (x:=x) hk ⟨fy.aU (k+1) x.l[k].aA d,x.l[k].aH.o⟩;obtain⟨ok,tm,dn,cm,ml,⟨b,l1,l2,l3⟩,ti,mn⟩:=h;have tk:=ti (k+1) ω;have lk:=l1 (k+1) ω;rw[Mk]at tk lk;have due:(fy.aU (k+1) x.l[k].aA d).aS<=x.l[k].aS/\(fy.aU (k+1) x.l[k].aA d).aQ<=x.l[k].aQ:=by unfold fy.aS fy.aQ;show (0:Int)+(if (0:Int)=1 then 10 else 0)<=_/\(if (0:Int)=1 then 1 else 0)<=_;split<;>simp<;>omega
 have s3:∀f:fy->Int,f (fy.aU (k+1) x.l[k].aA d)<=f x.l[k]->lN (λi=>f (iH x.M ((k:Int)+1) (fy.aU (k+1) x.l[k].aA d) i))<=lN (λi=>f (x.M i)):=λf hf=>by
  by_cases c:k<3
  ·rw[EO (f:=f) ω,Mk];omega
  ·rw[EP (f:=f) ω];exact W9 _
 have s1:=s3 fy.aS due.1;have s2:=s3 fy.aQ due.2;refine⟨u.aA ω (WX _),by show x.aJ.length<=_;omega,dn,λi hi=>?_,λm hm=>?_,⟨b,λi hi=>?_,l2,?_⟩,λi hi=>?_,?_⟩
 ·rw[hM];by_cases e:i=(k:Int)+1
  ·rw[e,iW];refine⟨⟨cr.aA,cr.aD,cr.es,cr.aC,rfl,?_,.inl rfl,rfl,rfl,λf hf=>(by cases hf),?_,rfl,λz=>(by cases z)⟩,rfl⟩
   ·by_cases c:k<3
    ·exact .inl ⟨by show 1<=(k:Int)+1;omega,by show (k:Int)+1<=3;omega⟩
    ·exact .inr ⟨rfl,by show 4<=(k:Int)+1;omega,by show (k:Int)+1<=5;omega⟩
   ·show 10<=10+d % 10/\10+d % 10<=19;omega
  ·rw[jk e];exact cm i hi
 ·obtain⟨a1,a2⟩:=ml m hm;refine⟨a1,?_⟩;rw[hM];by_cases e:m.aE=(k:Int)+1;·rw[e,Mk]at a2;rw[e,iW];exact a2
  ·rw[jk e];exact a2
 ·rw[hM];by_cases e:i=(k:Int)+1;·rw[e,iW];exact lk
  ·rw[jk e];exact l1 i hi
 ·rw[hM];omega
 ·rw[hM];by_cases e:i=(k:Int)+1;·rw[e,iW];exact⟨W9 _,by show (0:Int)<=_;omega⟩
  ·rw[jk e];exact ti i hi
 ·rw[hM];show (x.aA.length:Int)+_<=_;omega
theorem gC.aO (h:gC N c P x){p:List fF}{c':Nat}(hp:∀a∈p,a∈x.aA)(hc:c<=c')(hl:(p.length:Int)<=x.aA.length+3*(c'-c)):gC (N+1) c' P {x with aA:=p}:=by obtain⟨ok,tm,dn,cm,ml,⟨b,l1,l2,l3⟩,ti,mn⟩:=h;exact⟨(ok.aF hp).aA ω (WX _),by show x.aJ.length<=_;omega,dn,cm,λm hm=>ml m (hp m hm),⟨b,l1,λm hm=>l2 m (hp m hm),l3⟩,λi hi=>by have:=ti i hi;show 0<=(x.M i).aF/\(x.M i).aF<=_;omega,by show (p.length:Int)+lN (λi=>(x.M i).aQ)<=_;omega⟩
theorem gC.aV (h:gC N c P x)(hb:N<2^25) (cb:10*((c+1:Nat):Int)+40<400000) (pb:P+10+40<400000) {q d:Int} {i:Nat} (hk:k<5) {x':fM} (hq:0<=q/\q<=8) (m:x.aW q k i d x'):gC (N+1) (c+1) (P+10) x':=by
 have l5:=h.l5;have e:k<x.l.length:=ω;have same:gC (N+1) (c+1) (P+10) x:=h.aC ω ω ω;have u:=fM.aR e;by_cases c1:q<=1;·rw[m.aF c1,u];exact (h.aQ hb cb ω e d).1.aC (WX _) (WX _) (by split<;>omega)
 by_cases c2:q<=4
 ·rw[m.aC ⟨ω,c2⟩];split;·rename_i hi;exact (h.aM hb ω ω (i:=i) (m:=x.aA[i]) (Xq hi) rfl (λa ha=>(Xe.1 ha).elim XQ Xw) (by rw[WT,W7,Xk];omega)).1.aC (WX _) ω ω
  ·exact same
 by_cases c3:q=5
 ·rw[m.aD c3];exact (h.aO (p:=x.aA.take i++x.aA.drop (i+1)) (c':=c) (λa ha=>(Xe.1 ha).elim XQ Xw) (WX _) (by rw[WT,W7,Xk];omega)).aC (WX _) ω ω
 by_cases c4:q=6
 ·rw[m.aG c4];split;·rename_i hi;exact (h.aO (c':=c+1) (λa ha=>(Xe.1 ha).elim (λz=>z) λz=>by rw[XN.1 z];exact Xq hi.1) ω (by rw[WT,XI];omega)).aC (WX _) (WX _) ω
  ·exact same
 by_cases c5:q=7
 ·rw[m.aE c5,u];split;·rename_i he;exact (h.aP hb cb pb e ⟨λz hz=>by rw[XN.1 hz];omega,ς⟩ he).1
  ·exact same
 ·rw[m.aA ω,u];exact (h.aR e d).aC (WX _) ω ω
theorem gC.aS:gC 0 0 0 (fM.aN 3):=by
 have M:∀i,1<=i/\i<=5->(fM.aN 3).M i=fy.aU i (ia 3) (3*i):=λi hi=>by
  obtain⟨n,rfl⟩:∃n:Nat,i=(n:Int)+1:=⟨(i-1).toNat,ω⟩;have l5:n<(fM.aN 3).l.length:=by show n<5;omega
  rw[fM.aM l5,(yq l5).1];rfl
 have b0:(ia 3).aA=⟨0,0,[]⟩:=rfl;refine⟨(Mo ω).aA (WX _) ω,WX _,by show 0<=_;omega,λi hi=>?_,λm hm=>(by cases hm),⟨0,λi hi=>?_,λm hm=>(by cases hm),?_⟩,λi hi=>?_,?_⟩
 ·rw[M i hi];refine⟨⟨rfl,rfl,λe he=>(by cases he),rfl,rfl,?_,.inl rfl,rfl,rfl,λf hf=>(by cases hf),?_,rfl,λz=>(by cases z)⟩,rfl⟩
  ·by_cases c:i<=3
   ·exact .inl ⟨hi.1,c⟩
   ·exact .inr ⟨rfl,by show 4<=i;omega,hi.2⟩
  ·show 10<=10+(3*i) % 10/\10+(3*i) % 10<=19;omega
 ·rw[M i hi];exact W9 0
 ·show 10*0+(((fM.aN 3).M 1).aS+((fM.aN 3).M 2).aS+((fM.aN 3).M 3).aS)<=0;rw[M 1 ω,M 2 ω,M 3 ω];decide
 ·rw[M i hi];exact⟨W9 0,W9 0⟩
 ·show ((0:Nat):Int)+(((fM.aN 3).M 1).aQ+((fM.aN 3).M 2).aQ+((fM.aN 3).M 3).aQ)<=_;rw[M 1 ω,M 2 ω,M 3 ω];decide
end
def fM.aG:Nat->fM->fM
 | 0,x=>x
 | n+1,x=>x.aF.aG n
def jQ (P:Int)(m:Nat)(x:fM):Prop:=gC (400+40000*m) (150+5*m) (P+3*m) x
section
variable {b t l:Int} {lg:fG} {n N k m:Nat} {P:Int} {x:fM}
theorem vv (hP:P<=1100)(hm:m<=401):oU (400+40000*m) (150+5*m) (P+3*m):=⟨ω,ω,ω⟩
theorem jQ.aA (h:jQ P m x)(hP:P<=1100)(hm:m<=401):jQ P (m+1) x.aF/\R0 x.aF:=by obtain⟨a,b⟩:=Dn h (vv hP hm);exact⟨gC.aC a ω ω ω,b⟩
theorem jQ.aC (hP:P<=1100):∀(r m:Nat)(x:fM),jQ P m x->m+r<=402->jQ P (m+r) (x.aG r)
 | 0,m,x,h,_=>h
 | r+1,m,x,h,hm=>by have:=jQ.aC hP r (m+1) x.aF (h.aA hP ω).1 ω;rw[show m+1+r=m+(r+1) by omega]at this;exact this
theorem yJ (x:fM):∀(a b:Nat),(x.aG a).aG b=x.aG (a+b)
 | 0,b=>by rw[Y7];rfl
 | a+1,b=>by rw[show a+1+b=(a+b)+1 by omega];exact yJ x.aF a b
theorem JR (hP:P<=1100):∀(n m:Nat)(x:fM),jQ P m x->R0 x->nP n x->m+n<=402->∃t l,V3 l/\SS t l (x.aG n)
 | 0,m,x,h,_,s,_=>by
  cases s with
  | aA t l h=>exact⟨t,l,h⟩
  | aF g i _ hi hn=>omega
  | aC g e _ he hn=>omega
  | aE t l b h' _ hn=>have:=h'.2.2;have l3:=h'.1;have hb:=gC.aG h (i:=l) ω;omega
  | aG T p b h' hn=>obtain⟨p1,-,-,p4⟩:=h'.p;have hb:=gC.aG h (i:=p) ω;omega
  | aD T p e _ _ he hn=>omega
 | n+1,m,x,h,r0,s,hm=>by obtain⟨a,b⟩:=h.aA hP ω;exact JR hP n (m+1) x.aF a b (nP.aH h (vv hP ω) r0 s) ω
theorem Qk (h:jQ P 0 x)(hP:P<=1100):∃t l,V3 l/\SS t l (x.aG 62):=by obtain⟨a,b⟩:=h.aA hP ω;exact JR hP 61 1 x.aF a b (Ox a) ω
theorem SS.aD (h:gC N k P x)(hP:P<=1189)(ss:SS t l x):∃b,jK t l b (x.M l).aA.aA 133 x:=by
 obtain⟨b,hb,ru,fo⟩:=ss;obtain⟨l1,l2,-⟩:=ru.r2;obtain⟨G,D,-,mem,-⟩:=h.aH;have ml:=mem l ω;obtain⟨c,c1,-,c3⟩:=h.aU;have cl:=c1 l ω;have d0:0<=lN λi=>(x.M i).aS:=by
  have q:∀i,V3 i->0<=(x.M i).aS:=λi hi=>by have:=(h.aF i ω).1;unfold fy.aS;split<;>omega
  have:=q 1 ω;have:=q 2 ω;have:=q 3 ω;show 0<=(x.M 1).aS+(x.M 2).aS+(x.M 3).aS;omega
 refine⟨b,hb,ru,fo,rfl,λf hf=>?_⟩;obtain⟨⟨f1,f2⟩,⟨f3,f4⟩,-⟩:=ml.aM f hf;exact⟨(f.aD-f.aC-1).toNat,(((x.M l).aA.aA.aC-f.aC+7) / 8).toNat,ω,ω,ω⟩
theorem jK.aC (w:jK t l b lg n x){n':Nat}(hn:n<=n'):jK t l b lg n' x:=by obtain⟨a1,a2,a3,a4,a5⟩:=w;refine⟨a1,a2,a3,a4,λf hf=>?_⟩;obtain⟨d,e,z1,z2⟩:=a5 f hf;exact⟨d,e,ω,z2⟩
theorem jK.aG (hP:P<=1100):∀(r m:Nat)(b:Int)(x:fM),jQ P m x->m+r<=402->jK t l b lg n x->∃b,jK t l b lg n (x.aG r)
 | 0,m,b,x,h,_,w=>⟨b,w⟩
 | r+1,m,b,x,h,hm,w=>by obtain⟨b',w',-⟩:=w.aA h (vv hP ω);exact jK.aG hP r (m+1) b' x.aF (h.aA hP ω).1 ω (w'.aC ω)
theorem jK.aD (hP:P<=1100):∀(r m n:Nat)(b:Int)(x:fM),jQ P m x->m+r<=402->jK t l b lg n x->(2*n:Int)<=r+b->∃b,jK t l b lg 0 (x.aG r)
 | 0,m,n,b,x,h,_,w,hn=>⟨b,w.aC (by have:=w.bb;omega)⟩
 | r+1,m,n,b,x,h,hm,w,hn=>by obtain⟨b',w',e1,-⟩:=w.aA h (vv hP ω);refine jK.aD hP r (m+1) _ b' x.aF (h.aA hP ω).1 ω w' ?_;have:=w.bb;have:=w'.bb;split<;>omega
theorem jK.aF (hP:P<=1100):∀(r m:Nat)(b:Int)(x:fM),jQ P m x->m+r<=402->jK t l b lg 0 x->((2:Int)<=r+b\/∀j,V3 j->lg.aC<=(x.M j).aD)->ub lg (x.aG r)
 | 0,m,b,x,h,_,w,c=>w.aI h (c.elim (λz=>by have:=w.bb;omega) λz=>z)
 | r+1,m,b,x,h,hm,w,c=>by
  obtain⟨b',w',e1,e2,e3⟩:=w.aA h (vv hP ω);refine jK.aF hP r (m+1) b' x.aF (h.aA hP ω).1 ω (w'.aC ω) ?_;rcases c with c | c
  ·rcases w.bb with z | z;·exact .inl (by have:=e1 z;omega)
   ·exact .inr (e3 z rfl (w.aE h).1)
  ·exact .inr λj hj=>by have:=c j hj;have:=e2 j hj;omega
theorem jK.aJ (h:gC N k P x)(hP:P<=300000)(w:jK t l b lg n x){i:Nat}(hi:l=(i:Int)+1)(il:i<x.l.length)(data:List Int):(x.l[i].aP 1 data).2.2=0/\(x.l[i].aP 1 data).1=lg.aC+1/\∃I:fG,I.aC=lg.aC+1/\jK t l b I (n+1) (x.aD i (x.l[i].aP 1 data).2.1):=by
 obtain⟨bb,ru,fo,wl,fl⟩:=w;obtain⟨l1,l2,l3⟩:=ru.r2;have Mk:x.M l=x.l[i]:=by rw[hi];exact fM.aM il
 obtain⟨cl,u⟩:=h.aA l ω;have ll:x.l[i].aA.aA.aC<2^40:=by have f:=h.ok.aC i il;have b0:=cl.aA;rw[Mk]at b0;have lg:x.l[i].aA.aA.aC=x.l[i].aA.aA.aA+x.l[i].aA.aA.es.length:=rfl;have:=f.aF;omega
 have e0:(x.l[i].aP 1 data).2.2=0/\(x.l[i].aP 1 data).1=x.l[i].aA.aA.aC+1:=by unfold fy.aP;rw[WY (by rw[<-Mk];exact λz=>z l2),WY ω,WY (λz=>absurd z.1 δ),WY (by show ¬2^40<=x.l[i].aA.aA.aC;omega)];exact⟨rfl,rfl⟩
 rw[Mk]at cl u l2 l3 wl fl;obtain⟨-,c,a,q1,q2,q3,q4⟩:=cl.aL data e0.1;have hM:(x.aD i (x.l[i].aP 1 data).2.1).M=iH x.M l (x.l[i].aP 1 data).2.1.r:=by rw[hi];exact fM.aV il _
 have E:(x.l[i].bF data).aA.aA.aC=lg.aC+1:=by rw[<-wl];show x.l[i].aA.aA.aA+((x.l[i].aA.aA.es++[_]).length:Int)=x.l[i].aA.aA.aA+(x.l[i].aA.aA.es.length:Int)+1;rw[WT,XI];omega
 have es:∀e∈(x.l[i].bF data).aA.aA.es,e.aC≠2:=λe he=>by
  rcases Xe.1 he with z | z;·exact cl.es e z
  ·rw[XN.1 z];exact (by decide:(1:Int)≠2)
 refine⟨e0.1,by rw[e0.2,wl],(x.l[i].bF data).aA.aA,E,bb,⟨⟨l1,?_⟩,λj hj=>?_,λj hj hn=>?_,λm hm=>?_,λm hm k3 e=>?_⟩,λj hj hn=>?_,?_,λf hf=>?_⟩;·rw[hM,iW,q2];exact⟨l2,l3⟩
 ·rw[hM];by_cases e:j=l;·rw[e,iW,q2];show x.l[i].aA.aC=t;rw[<-Mk];exact ru.tm l l1
  ·rw[jk e];exact ru.tm j hj
 ·rw[hM,jk hn];exact ru.nl j hj hn
 ·have hm:m∈x.aA++_:=hm;rcases Xe.1 hm with z | z;·exact ru.k m z
  ·rw[q4]at z;obtain⟨f,hf,rfl⟩:=XO.1 z;exact .inl (pD (r:=x.l[i].bF data) es cl.aA cl.aC (by show 1<=x.l[i].id/\x.l[i].id<=3;rw[u];exact l1) (cl.aH hf).2 (cl.nx f hf).1).2.1
 ·have hm:m∈x.aA++_:=hm;rcases Xe.1 hm with z | z;·exact ru.f m z k3 e
  ·rw[q4]at z;obtain⟨f,hf,rfl⟩:=XO.1 z;exact (pD (r:=x.l[i].bF data) es cl.aA cl.aC (by show 1<=x.l[i].id/\x.l[i].id<=3;rw[u];exact l1) (cl.aH hf).2 (cl.nx f hf).1).2.2.2.1.trans u
 ·rw[hM,jk hn];exact fo j hj hn
 ·rw[hM,iW,q2]
 ·rw[hM,iW,q2]at hf;obtain⟨d,e,z1,z2,z3⟩:=fl f hf;exact⟨d,e+1,ω,z2,by rw[E];omega⟩
theorem SS.aC (h:gC N k P x)(ss:SS t l x):V3 l/\(x.M l).aE=2/\∀j,V3 j->(x.M j).aR=l:=by
 obtain⟨b,-,ru,fo⟩:=ss;obtain⟨l1,l2,-⟩:=ru.r2;obtain⟨cl,u⟩:=h.aA l ω;refine⟨l1,l2,λj hj=>?_⟩;by_cases e:j=l;·rw[e,(cl.ld l2).1,u]
 ·exact (fo j hj e).ld
theorem jK.ss (w:jK t l b lg n x):SS t l x:=⟨b,w.bb,w.ru,w.fo⟩
theorem Qv (h:jQ 1000 0 x):∃l,V3 l/\jQ 1000 100 (x.aG 100)/\((x.aG 100).M l).aE=2/\(∀j,V3 j->((x.aG 100).M j).aR=l)/\∀(i:Nat) (il:i<(x.aG 100).l.length) (data:List Int),l=(i:Int)+1->gT data/\data.length<=256->
  ((x.aG 100).l[i].aP 1 data).2.2=0/\jQ 1020 101 ((x.aG 100).aD i ((x.aG 100).l[i].aP 1 data).2.1)/\mT (x.aG 100) (x.aG 100).l[i].aA (x.aG 100).l[i].aI ((x.aG 100).l[i].aP 1 data).2.1 /\
  ∃lg:fG,lg.aC=((x.aG 100).l[i].aP 1 data).1/\ub lg (((x.aG 100).aD i ((x.aG 100).l[i].aP 1 data).2.1).aG 300):=by
 obtain⟨t,l,l3,ss⟩:=Qk h ω;have h62:=jQ.aC ω 62 0 x h ω;obtain⟨b,w⟩:=ss.aD h62 ω;have e100:(x.aG 62).aG 38=x.aG 100:=yJ x 62 38;have h100:=jQ.aC ω 38 _ _ h62 ω;obtain⟨b,w⟩:=jK.aG ω 38 _ _ _ h62 ω w;rw[e100]at w h100;generalize x.aG 100=y at *;obtain⟨a1,a2,a3⟩:=w.ss.aC h100;refine⟨l,l3,h100,a2,a3,λi il data hi hd=>?_⟩;obtain⟨p1,p2,lg',p3,w'⟩:=w.aJ h100 ω hi il data;have h100:gC (400+40000*100) (150+5*100) (1000+3*100) y:=h100;obtain⟨q1,q2⟩:=h100.aP δ δ δ il hd p1;have q1:jQ 1020 101 _:=gC.aC q1 ω ω ω;refine⟨p1,q1,q2,lg',p3.trans p2.symm,?_⟩;generalize y.aD i (y.l[i].aP 1 data).2.1=z at *;obtain⟨b2,w2⟩:=jK.aD ω 268 101 134 b z q1 ω w' (by have:=w'.bb;omega);have:=jK.aF ω 32 _ b2 _ (jQ.aC ω 268 101 z q1 ω) ω w2 (.inl (by have:=w2.bb;omega));rw[yJ z 268 32]at this;exact this
end
end Glb
