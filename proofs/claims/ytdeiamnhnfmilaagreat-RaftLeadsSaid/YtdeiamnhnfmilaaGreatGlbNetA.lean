/-
  A library of its own.
-/
import Derived.Test.YtdeiamnhnfmilaaGreatGlbSafB
set_option linter.unusedSimpArgs false
set_option linter.unusedVariables false
set_option maxRecDepth 10000
set_option maxHeartbeats 8000000
namespace Glb
open Go
variable {P:Program}{g f s fs ft:FuncId}
def gR (F:Nat->Prop)(h:fu)(sz:Nat)(v:AV)(es:List (List AV)):Prop:=
 (v=.aC/\es=[])\/∃n off cap row g,v=.aG n sz off es.length cap/\F n/\h[n]?=some (some (.aA sz row g))/\off+es.length<=row.length/\uG cap es.length/\(cap=none->off=0)/\(∀c,cap=some c->off+c<=row.length)/\(row.drop off).take es.length=es
theorem xa (F:Nat->Prop)(h:fu)(sz:Nat):Rd F h (.sl sz []) .aC:=by simp only[Rd];exact⟨[],.inl ⟨rfl,rfl⟩,rfl⟩
theorem Kf {v:AV}{a b rest:AC}{st:St}{K:AX->St->Prop}(Q:St->Prop)(h1:qc P v a b st λx s=>x=.aA/\Q s)(h2:∀s,Q s->vc P rest s K):qc P v a b st (uX P rest K):=by
 have key:∀(c:AC),vc P c st (λx s=>x=.aA/\Q s)->vc P c st (uX P rest K):=λc hc=>qb c (λx s ⟨e,q⟩=>by subst e;exact h2 s q) hc;unfold qc at h1 ⊢;split at h1;·exact⟨λe=>key _ (h1.1 e),λe=>key _ (h1.2 e)⟩
 ·exact h1.elim
section
variable {F F':Nat->Prop} {h h':fu} {sz:Nat} {v:AV} {es:List (List AV)}
theorem gR.aC:gR F h sz .aC []:=.inl ⟨rfl,rfl⟩
theorem gR.aA (c:gR F h sz v es)(hF:∀m,F m->m<h.length->F' m) (hk:∀m,F m->m<h.length->h'[m]?=h[m]?):gR F' h' sz v es:=by
 rcases c with c | ⟨n,off,cap,row,g,h1,h2,h3,h4⟩;·exact .inl c
 ·have hl:=(WR.1 h3).1;exact .inr ⟨n,off,cap,row,g,h1,hF n h2 hl,(hk n h2 hl).trans h3,h4⟩
theorem gR.aF (c:gR F h sz v es):iJ v=some (ι es.length):=by rcases c with⟨rfl,rfl⟩ | ⟨n,off,cap,row,g,rfl,-⟩<;>rfl
theorem gR.aE (c:gR F h sz v es):v.aH=true:=by rcases c with⟨rfl,-⟩ | ⟨n,off,cap,row,g,rfl,-⟩<;>rfl
theorem gR.at (c:gR F h sz v es){i:Nat}(hi:i<es.length):∃n off row g,jq sz v (ι i)=some (.aA n sz (off+i) 0)/\F n/\h[n]?=some (some (.aA sz row g))/\row[off+i]?=some es[i] /\
  ∀cs,gR F (h.set n (some (.aA sz (row.set (off+i) cs) g))) sz v (es.set i cs):=by
 rcases c with⟨rfl,rfl⟩ | ⟨n,off,cap,row,g,rfl,h2,h3,h4,h5,h6,h7,h8⟩;·simp at hi
 ·have hl:=(WR.1 h3).1;refine⟨n,off,row,g,?_,h2,h3,?_,λcs=>.inr ⟨n,off,cap,_,g,by rw[W4],h2,W0 hl,by rw[W4,W4];exact h4,by rw[W4];exact h5,h6,by rw[W4];exact h7,?_⟩⟩;·simp only[jq];rw[WW ⟨Xb,ω,ω⟩];simp
  ·have:es[i]?=((row.drop off).take es.length)[i]?:=by rw[h8]
   rw[XV hi,Xv,WU hi]at this;exact this.symm
  ·rw[W4];apply XT;intro j;simp only[Ye,Xv,Yz];by_cases c1:j<es.length
   ·rw[WW c1];by_cases c2:i=j;·subst c2;rw[WW rfl,WW ω,WW rfl,WW hi]
    ·rw[WY ω,WY c2];have:es[j]?=((row.drop off).take es.length)[j]?:=by rw[h8]
     rw[XV c1,Xv]at this;exact this.symm
   ·rw[WY c1,WY ω,XP ω]
theorem gR.aD {h0:fu}{bytes:Nat}{ys:List (List AV)}(c:gR F h0 sz v es)(hx:fq fB h0 h)(hb:(es.length+ys.length)*bytes<=2^46):
  ∃v' h',iL h sz bytes v ys=some (v',h')/\gR (λm=>(F m/\m<h.length)\/h.length<=m) h' sz v' (es++ys)/\fq F h h':=by
 have u:∀(hh:fu) (U:List (List AV)),h.length<=hh.length->gR (λm=>(F m/\m<h.length)\/h.length<=m) (gY hh sz U).2 sz (gY hh sz U).1 U:=by intro hh U hl;exact .inr ⟨hh.length,0,none,U,true,rfl,.inr hl,by simp[gY],ω,(λc hc=>by cases hc),(λ_=>rfl),(λc hc=>by cases hc),ς⟩
 rcases c with⟨rfl,rfl⟩ | ⟨n,off,cap,row,g,rfl,hn,O,a1,a4,a3,a2,he⟩;·refine⟨(gY h sz ys).1,(gY h sz ys).2,?_,u h ys (WX _),fq.aF _ _ _⟩;simp only[iL];rw[WW (by simpa using hb)]
 ·have hnlt:=(WR.1 O).1;have E:h[n]?=some (some (.aA sz row g)):=hx.aA O;have I:=(WR.1 E).1;simp only[iL,E];rw[WW ⟨Xb,Xb,a1,hb⟩];cases cap with
  | none=>obtain rfl:=a3 rfl;simp only[Yc];rw[Yt]at he;refine⟨_,_,rfl,?_,(fq.aH none (λ_=>hn)).aD (fq.aF F _ _) (λ_ _ x=>x) (λ_ _ x=>x)⟩;rw[he];exact u _ _ ς
  | some c=>
   have hc1:=a4 c rfl;have a8:=a2 c rfl;cases c with
   | zero=>
    have a6:es=[]:=W5 ω;subst a6;simp only[Xi,Yc];by_cases hy0:ys.length=0;·rw[WW hy0];have a5:ys=[]:=W5 hy0;subst a5;exact⟨_,_,rfl,.inr ⟨n,off,some 0,row,g,rfl,.inl ⟨hn,I⟩,E,a1,a4,a3,a2,he⟩,fq.aC _ _⟩
    ·rw[WY hy0];exact⟨(gY h sz ys).1,(gY h sz ys).2,rfl,u h ys (WX _),fq.aF _ _ _⟩
   | succ c=>
    simp only;by_cases hcap:c+1<es.length+ys.length;·rw[WW hcap,he];exact⟨_,_,rfl,u _ _ (WX _),fq.aF _ _ _⟩
    ·rw[WY hcap,WW ω];have Z:(iq row (off+es.length) ys).length=row.length:=by simp[iq];omega
     refine⟨_,_,rfl,.inr ⟨n,off,some (c+1),iq row (off+es.length) ys,g,by rw[WT],.inl ⟨hn,I⟩,by rw[W0 I],by rw[Z,WT];omega,
      (λc' W=>by cases W;rw[WT];omega),(λe=>by cases e),(λc' W=>by cases W;rw[Z];exact a8),?_⟩,fq.aH _ (λ_=>hn)⟩
     apply XT;intro i;have a7:∀i,i<es.length->row[off+i]?=es[i]?:=λi hi=>by
      have:es[i]?=((row.drop off).take es.length)[i]?:=by rw[he]
      rw[this,XV hi,Xv]
     simp only[Ye,Xv,WT,iq,Yk,W7,WT];rw[show min (off+es.length) row.length=off+es.length by omega];by_cases h1:i<es.length;·rw[WW ω,WW ω,WW ω,WW ω,WW h1];exact a7 i h1
     ·by_cases h2:i<es.length+ys.length
      ·rw[WW h2,WW ω,WY ω,WY h1];congr 1;omega
      ·rw[WY h2,WY h1,XP ω]
end
variable {P:Program}{g f s fs ft:FuncId}
structure jC where
 l:List fy
 aD:List fP
 aC:List Int
 aG:List fF
 aA:List gw
 aE:List Int
 aF:List Int
 aH:List Int
structure gz where
 lv:AV
 hv:AV
 av:AV
 pv:AV
 dv:AV
 tv:AV
 ev:AV
 qv:AV
 rs:List Nat
def gz.aA (w:gz):List AV:=[w.lv,w.hv,w.av,w.pv,w.dv,w.tv,w.ev,w.qv,.aE false]
def gQ (k:Nat)(Λ:Nat->Nat):Nat->Nat:=λm=>if Λ m / 10=k+1 then Λ m % 10 else 0
def iF (l:List Int):List (List AV):=l.map λn=>[AV.aD .i64 n]
def Zs (Λ:Nat->Nat)(h:fu):Nat->Prop:=λm=>Λ m=0/\m<h.length
structure gA (Λ:Nat->Nat)(h:fu)(nb:Nat)(w:gz)(v:jC):Prop where
 lt:∀m,Λ m≠0->m<h.length
 aC:Λ nb=101
 aA:h[nb]?=some (some (.aA 9 [w.aA] false))
 aD:w.rs.length=v.l.length/\v.l.length<=5
 l:gR (λm=>Λ m=102) h 1 w.lv (w.rs.map λr=>[.aA r 21 0 0])
 aG:∀k (h1:k<w.rs.length) (h2:k<v.l.length),jn (gQ k Λ) h w.rs[k] v.l[k]
 aJ:∃rows,gR (λm=>Λ m=103) h 2 w.hv rows/\gB (Zs Λ h) h (v.aD.map λx=>(ji x).c) rows
 aL:gR (λm=>Λ m=104) h 1 w.av (iF v.aC)
 aH:∃rows,gR (λm=>Λ m=105) h 17 w.pv rows/\gB (Zs Λ h) h (v.aG.map fF.c) rows
 aI:∃rows,gR (λm=>Λ m=106) h 3 w.dv rows/\gB (Zs Λ h) h (v.aA.map gw.c) rows
 aN:gR (λm=>Λ m=107) h 1 w.tv (iF v.aE)
 aK:gR (λm=>Λ m=108) h 1 w.ev (iF v.aF)
 aM:gR (λm=>Λ m=109) h 1 w.qv (iF v.aH)
section
variable {Λ Λ':Nat->Nat} {h h':fu} {nb:Nat} {w:gz} {v:jC}
theorem gA.bH (a:gA Λ h nb w v)(hl:h.length<=h'.length)(he:∀m,m<h.length->Λ' m=Λ m)(hlt:∀m,Λ' m≠0->m<h'.length) (hk:∀m,m<h.length->Λ m<110->h'[m]?=h[m]?) (u:∀m,h.length<=m->Λ' m=0\/110<=Λ' m):gA Λ' h' nb w v:=by
 have nbl:=(WR.1 a.aA).1;have z:∀m,Zs Λ h m->Zs Λ' h' m:=λm hm=>⟨(he m hm.2).trans hm.1,Xj hm.2 hl⟩;have kz:ik (Zs Λ h) h h':=λm hm y hy=>(hk m hm.2 (by rw[hm.1];omega)).trans hy;have cc:∀{j sz:Nat}{b:AV} {es:List (List AV)},j<110->gR (λm=>Λ m=j) h sz b es->gR (λm=>Λ' m=j) h' sz b es:=λhj c=>c.aA (λm hm hlt=>(he m hlt).trans hm) (λm hm hlt=>hk m hlt (by have hm':Λ m=_:=hm;omega));obtain⟨hr,h1,h2⟩:=a.aJ;obtain⟨pr,p1,p2⟩:=a.aH;obtain⟨dr,d1,d2⟩:=a.aI;refine⟨hlt,(he nb nbl).trans a.aC,(hk nb nbl (by rw[a.aC];omega)).trans a.aA,a.aD,cc ω a.l,λk k1 k2=>?_,⟨hr,cc ω h1,gB.aA z kz _ _ h2⟩,cc ω a.aL,⟨pr,cc ω p1,gB.aA z kz _ _ p2⟩,⟨dr,cc ω d1,gB.aA z kz _ _ d2⟩,cc ω a.aN,cc ω a.aK,cc ω a.aM⟩;have m0:=a.aG k k1 k2;have e:gQ k Λ'=gQ k Λ:=by
  funext m
  by_cases c:m<h.length
  ·unfold gQ;rw[he m c]
  ·have:k<5:=by have:=a.aD;omega
   have e0:gQ k Λ' m=0:=by unfold gQ;rcases u m ω with z | z<;>(split<;>omega)
   rw[e0];have:Λ m=0:=W6 λy=>c (a.lt m y);unfold gQ;rw[this];simp
 rw[e];refine m0.aC hl (λm hm=>hk m (m0.aA m hm).1 ?_);have:k<5:=by have:=a.aD;omega
 unfold gQ at hm;split at hm;·omega
 ·exact absurd rfl hm
theorem gA.up (a:gA Λ h nb w v)(hx:fq fB h h'):gA Λ h' nb w v:=by
 have z:∀m,h.length<=m->Λ m=0:=λm hm=>W6 λy=>by have:=a.lt m y;omega
 refine a.bH hx.1 (λ_ _=>rfl) (λm hm=>Xj (a.lt m hm) hx.1) (λm hm _=>hx.2 m hm (λy=>y)) (λm hm=>.inl (z m hm))
def nC (k:Nat)(Λ:Nat->Nat)(n:Nat)(L':Nat->Nat):Nat->Nat:=λm=>if m<n then Λ m else if L' m=0 then 0 else 10*(k+1)+L' m
theorem gA.bE {k:Nat}{R:fy}{L':Nat->Nat}(a:gA Λ h nb w v)(hk5:k<w.rs.length)(hkl:k<v.l.length) (m':jn L' h' w.rs[k] R) (e:∀m,m<h.length->L' m=gQ k Λ m) (hx:fq (λm=>wA (gQ k Λ m)) h h'):
  gA (nC k Λ h.length L') h' nb w {v with l:=v.l.set k R}/\(∀m,m<h.length->nC k Λ h.length L' m=Λ m)/\(∀m,h.length<=m->L' m=0->nC k Λ h.length L' m=0):=by
 have old:∀m,m<h.length->nC k Λ h.length L' m=Λ m:=λm hm=>WW hm;have hl:=hx.1;have nbl:=(WR.1 a.aA).1;have small:∀m,L' m≠0->L' m<10:=λm hm=>by have:=(m'.aA m hm).2;omega
 have pk:∀m,gQ k (nC k Λ h.length L') m=L' m:=by
  intro m;by_cases c:m<h.length;·unfold gQ;rw[old m c];exact (e m c).symm
  ·unfold gQ nC;rw[WY c];by_cases c2:L' m=0;·rw[WW c2,c2];simp
   ·rw[WY c2];have:=small m c2;rw[WW ω];omega
 have pj:∀j,j≠k->gQ j (nC k Λ h.length L')=gQ j Λ:=by
  intro j hj;funext m;by_cases c:m<h.length;·unfold gQ;rw[old m c]
  ·have z:Λ m=0:=W6 λy=>c (a.lt m y);unfold gQ nC;rw[WY c,z];by_cases c2:L' m=0;·rw[WW c2]
   ·rw[WY c2];have:=small m c2;rw[WY ω];simp
 have ke:∀m,m<h.length->Λ m / 10≠k+1->h'[m]?=h[m]?:=λm hm hq=>hx.2 m hm (λy=>y (by unfold gQ;rw[WY hq]));have k5:k<5:=by have:=a.aD;omega
 have z:∀m,Zs Λ h m->Zs (nC k Λ h.length L') h' m:=λm hm=>⟨(old m hm.2).trans hm.1,Xj hm.2 hl⟩;have kz:ik (Zs Λ h) h h':=λm hm y hy=>(ke m hm.2 (by rw[hm.1];omega)).trans hy;have cc:∀{j sz:Nat}{b:AV} {es:List (List AV)},100<=j->gR (λm=>Λ m=j) h sz b es->gR (λm=>nC k Λ h.length L' m=j) h' sz b es:=λhj c=>c.aA (λm hm hlt=>(old m hlt).trans hm) (λm hm hlt=>ke m hlt ω);obtain⟨hr,h1,h2⟩:=a.aJ;obtain⟨pr,p1,p2⟩:=a.aH;obtain⟨dr,d1,d2⟩:=a.aI;refine⟨⟨λm hm=>?_,(old nb nbl).trans a.aC,(ke nb nbl (by rw[a.aC];omega)).trans a.aA,⟨by rw[W4];exact a.aD.1,by rw[W4];exact a.aD.2⟩,cc ω a.l,λj j1 j2=>?_,⟨hr,cc ω h1,gB.aA z kz _ _ h2⟩,cc ω a.aL,⟨pr,cc ω p1,gB.aA z kz _ _ p2⟩,⟨dr,cc ω d1,gB.aA z kz _ _ d2⟩,cc ω a.aN,cc ω a.aK,cc ω a.aM⟩,old,λm hm h0=>?_⟩
 ·by_cases c:m<h.length
  ·exact Xj c hl
  ·unfold nC at hm;rw[WY c]at hm;by_cases c2:L' m=0;·rw[WW c2]at hm;exact absurd rfl hm
   ·exact (m'.aA m c2).1
 ·have u:j<v.l.length:=by simpa using j2
  have gs:(v.l.set k R)[j]'j2=if k=j then R else v.l[j]:=Zu j2
  rw[gs];by_cases c:k=j;·subst c;rw[WW rfl];have:gQ k (nC k Λ h.length L')=L':=funext pk;rw[this];exact m'
  ·rw[WY c,pj j (λy=>c y.symm)];have m0:=a.aG j j1 u;refine m0.aC hl (λm hm=>ke m (m0.aA m hm).1 ?_);unfold gQ at hm;split at hm;·omega
   ·exact absurd rfl hm
 ·unfold nC;rw[WY ω,WW h0]
end
variable {P:Program}{g f s fs ft:FuncId}
structure FG (j:Nat)(Λ:Nat->Nat)(h:fu)(nb:Nat)(w:gz)(v:jC):Prop where
 lt:∀m,Λ m≠0->m<h.length
 aC:Λ nb=101
 aD:w.rs.length=v.l.length/\v.l.length<=5
 l:j≠102->gR (λm=>Λ m=102) h 1 w.lv (w.rs.map λr=>[.aA r 21 0 0])
 aA:∀k (h1:k<w.rs.length) (h2:k<v.l.length),jn (gQ k Λ) h w.rs[k] v.l[k]
 aJ:j≠103->∃rows,gR (λm=>Λ m=103) h 2 w.hv rows/\gB (Zs Λ h) h (v.aD.map λx=>(ji x).c) rows
 aI:j≠104->gR (λm=>Λ m=104) h 1 w.av (iF v.aC)
 aK:j≠105->∃rows,gR (λm=>Λ m=105) h 17 w.pv rows/\gB (Zs Λ h) h (v.aG.map fF.c) rows
 aE:j≠106->∃rows,gR (λm=>Λ m=106) h 3 w.dv rows/\gB (Zs Λ h) h (v.aA.map gw.c) rows
 aH:j≠107->gR (λm=>Λ m=107) h 1 w.tv (iF v.aE)
 aG:j≠108->gR (λm=>Λ m=108) h 1 w.ev (iF v.aF)
 aF:j≠109->gR (λm=>Λ m=109) h 1 w.qv (iF v.aH)
 z:∀m,Zs Λ h m->True
structure gK (Λ:Nat->Nat)(h:fu)(Λ':Nat->Nat)(h':fu):Prop where
 aD:h.length<=h'.length
 aC:∀m,m<h.length->Λ' m=Λ m
 z:∀m,m<h.length->Λ m=0->h'[m]?=h[m]?
 aG:∀m,m<h.length->110<=Λ m->h'[m]?=h[m]?
theorem gK.aF (Λ h):gK Λ h Λ h:=⟨WX _,λ_ _=>rfl,λ_ _ _=>rfl,λ_ _ _=>rfl⟩
theorem gK.aA {Λ h Λ1 h1 Λ2 h2}(a:gK Λ h Λ1 h1)(b:gK Λ1 h1 Λ2 h2):gK Λ h Λ2 h2:=
 ⟨Xg a.aD b.aD,λm hm=>(b.aC m (Xj hm a.aD)).trans (a.aC m hm),λm hm e=>(b.z m (Xj hm a.aD) ((a.aC m hm).trans e)).trans (a.z m hm e),λm hm e=>(b.aG m (Xj hm a.aD) (by rw[a.aC m hm];exact e)).trans (a.aG m hm e)⟩
theorem gK.up {Λ h h'}(hx:fq fB h h'):gK Λ h Λ h':=⟨hx.1,λ_ _=>rfl,λm hm _=>hx.2 m hm (λy=>y),λm hm _=>hx.2 m hm (λy=>y)⟩
theorem gK.zs {Λ h Λ' h'}(a:gK Λ h Λ' h'):∀m,Zs Λ h m->Zs Λ' h' m:=λm hm=>⟨(a.aC m hm.2).trans hm.1,Xj hm.2 a.aD⟩
theorem gK.kz {Λ h Λ' h'}(a:gK Λ h Λ' h'):ik (Zs Λ h) h h':=λm hm y hy=>(a.z m hm.2 hm.1).trans hy
theorem gK.rd {Λ h Λ' h' d x}(a:gK Λ h Λ' h')(hr:Rd (Zs Λ h) h d x):Rd (Zs Λ' h') h' d x:=Rd.aE a.zs a.kz _ _ hr
theorem gK.aE {Λ h Λ' h' d x}(a:gK Λ h Λ' h')(hr:fH (Zs Λ h) h d x):fH (Zs Λ' h') h' d x:=fH.aA a.zs a.kz _ _ hr
def ot (Λ:Nat->Nat)(n n' j:Nat):Nat->Nat:=λm=>if m<n then Λ m else if m<n' then j else 0
section
variable {Λ:Nat->Nat} {h h':fu} {nb:Nat} {w:gz} {v:jC}
theorem gA.aE (a:gA Λ h nb w v){m:Nat}(hm:h.length<=m):Λ m=0:=W6 λy=>by have:=a.lt m y;omega
theorem gA.aS (a:gA Λ h nb w v){j:Nat}(hj:102<=j/\j<=109)(hl:h.length<=h'.length) (hk:∀m,m<h.length->Λ m≠j->m≠nb->h'[m]?=h[m]?):FG j (ot Λ h.length h'.length j) h' nb w v/\gK Λ h (ot Λ h.length h'.length j) h':=by
 have nbl:=(WR.1 a.aA).1;have old:∀m,m<h.length->ot Λ h.length h'.length j m=Λ m:=λm hm=>WW hm;have sm:gK Λ h (ot Λ h.length h'.length j) h':=⟨hl,old,λm hm e=>hk m hm ω (λy=>by rw[y,a.aC]at e;omega),λm hm e=>hk m hm ω (λy=>by rw[y,a.aC]at e;omega)⟩;have cc:∀{i sz:Nat}{b:AV} {es:List (List AV)},j≠i->i≠101->gR (λm=>Λ m=i) h sz b es->gR (λm=>ot Λ h.length h'.length j m=i) h' sz b es:=λhi h1 c=>c.aA (λm hm hlt=>(old m hlt).trans hm) (λm hm hlt=>hk m hlt ω (λy=>by rw[y,a.aC]at hm;omega));refine⟨⟨λm hm=>?_,(old nb nbl).trans a.aC,a.aD,λc=>cc c ω a.l,λk k1 k2=>?_,λc=>?_,λc=>cc c ω a.aL,λc=>?_,λc=>?_,λc=>cc c ω a.aN,λc=>cc c ω a.aK,λc=>cc c ω a.aM,λ_ _=>Xb⟩,sm⟩
 ·by_cases c:m<h.length
  ·omega
  ·unfold ot at hm;rw[WY c]at hm;by_cases c2:m<h'.length;·exact c2
   ·rw[WY c2]at hm;exact absurd rfl hm
 ·have m0:=a.aG k k1 k2;have k5:k<5:=by have:=a.aD;omega
  have e:gQ k (ot Λ h.length h'.length j)=gQ k Λ:=by
   funext m
   by_cases c:m<h.length
   ·unfold gQ;rw[old m c]
   ·have z:=a.aE (m:=m) ω;unfold gQ ot;rw[z,WY c];split<;>split<;>first | rfl | omega | simp
  rw[e];refine m0.aC hl (λm hm=>?_);have u:=(m0.aA m hm).1;unfold gQ at hm;split at hm;·exact hk m u ω (λy=>by rename_i c;rw[y,a.aC]at c;omega)
  ·exact absurd rfl hm
 ·obtain⟨rows,h1,h2⟩:=a.aJ;exact⟨rows,cc c ω h1,gB.aA sm.zs sm.kz _ _ h2⟩
 ·obtain⟨rows,h1,h2⟩:=a.aH;exact⟨rows,cc c ω h1,gB.aA sm.zs sm.kz _ _ h2⟩
 ·obtain⟨rows,h1,h2⟩:=a.aI;exact⟨rows,cc c ω h1,gB.aA sm.zs sm.kz _ _ h2⟩
theorem gA.aP (a:gA Λ h nb w v){h2:fu}(hx:fq fB h h2){j sz bytes:Nat}(hj:102<=j/\j<=109){x:AV}{es ys:List (List AV)}(c:gR (λm=>Λ m=j) h sz x es)(hb:(es.length+ys.length)*bytes<=2^46):
  ∃x' h3,iL h2 sz bytes x ys=some (x',h3)/\x'.aH=true/\h3[nb]?=ar 9 [w.aA]/\nb<h3.length/\∀r:List AV,∃Λ',FG j Λ' (h3.set nb (some (.aA 9 [r] false))) nb w v/\gK Λ h Λ' (h3.set nb (some (.aA 9 [r] false)))/\gK Λ h2 Λ' (h3.set nb (some (.aA 9 [r] false))) /\
   gR (λm=>Λ' m=j) (h3.set nb (some (.aA 9 [r] false))) sz x' (es++ys)/\(h3.set nb (some (.aA 9 [r] false)))[nb]?=ar 9 [r]:=by
 have a2:=a.up hx;have E:=(WR.1 a2.aA).1;obtain⟨x',h3,e1,c3,X3⟩:=c.aD (bytes:=bytes) (ys:=ys) hx hb;have a1:=X3.1;have O:h3[nb]?=ar 9 [w.aA]:=(X3.2 nb E (λy=>by have y':Λ nb=j:=y;rw[a.aC]at y';omega)).trans a2.aA;have u:nb<h3.length:=ω;refine⟨x',h3,e1,c3.aE,O,u,λr=>⟨ot Λ h2.length (h3.set nb (some (.aA 9 [r] false))).length j,?_⟩⟩;obtain⟨r1,s1⟩:=a2.aS (h':=h3.set nb (some (.aA 9 [r] false))) hj (by rw[W4];exact a1) (λm hm U W=>by rw[WS (λe=>W e.symm)];exact X3.2 m hm U);refine⟨r1,(gK.up hx).aA s1,s1,c3.aA (λm hm hlt=>?_) (λm hm hlt=>?_),W0 u⟩
 ·rw[W4];unfold ot;rcases hm with⟨hm,I⟩ | hm;·rw[WW I];exact hm
  ·rw[WY ω,WW hlt]
 ·refine WS (λe=>?_);rcases hm with⟨hm,I⟩ | hm;·have Z:Λ m=j:=hm;rw[<-e,a.aC]at Z;omega
  ·omega
theorem gA.aV (a:gA Λ h nb w v){h2:fu}(hx:fq fB h h2){ms:List fF}{ys:List (List AV)}(hy:gB (Zs Λ h2) h2 (ms.map fF.c) ys)(hb:(v.aG.length+ms.length)*200<=2^46){bytes:Nat}(u:bytes<=200):
  ∃x' h3,iL h2 17 bytes w.pv ys=some (x',h3)/\x'.aH=true/\h3[nb]?=ar 9 [w.aA]/\nb<h3.length/\∃Λ',gK Λ h Λ' (h3.set nb (some (.aA 9 [({w with pv:=x'}:gz).aA] false)))/\gA Λ' (h3.set nb (some (.aA 9 [({w with pv:=x'}:gz).aA] false))) nb {w with pv:=x'} {v with aG:=v.aG++ms}:=by
 obtain⟨rows,p1,p2⟩:=a.aH;have l1:=mz p2;have l2:=mz hy;simp only[Xd]at l1 l2;obtain⟨x',h3,e1,sc,n3,e,f⟩:=a.aP hx (bytes:=bytes) (ys:=ys) ω p1 (by rw[l1,l2];exact Xg (Nat.mul_le_mul_left _ u) hb);obtain⟨Λ',r1,s1,s2,c1,row⟩:=f ({w with pv:=x'}:gz).aA;refine⟨x',h3,e1,sc,n3,e,Λ',s1,r1.lt,r1.aC,row,r1.aD,r1.l ω,r1.aA,r1.aJ ω,r1.aI ω,⟨_,c1,?_⟩,r1.aE ω,r1.aH ω,r1.aG ω,r1.aF ω⟩;show gB _ _ ((v.aG++ms).map fF.c) _;rw[XU];exact vR (gB.aA s1.zs s1.kz _ _ p2) (gB.aA s2.zs s2.kz _ _ hy)
theorem gA.bz (a:gA Λ h nb w v){h2:fu}(hx:fq fB h h2){en:gw}{cs:List AV}(hy:fH (Zs Λ h2) h2 en.c cs)(hb:v.aA.length<=2^30){bytes:Nat}(u:bytes<=200):
  ∃x' h3,iL h2 3 bytes w.dv [cs]=some (x',h3)/\x'.aH=true/\h3[nb]?=ar 9 [w.aA]/\nb<h3.length/\∃Λ',gK Λ h Λ' (h3.set nb (some (.aA 9 [({w with dv:=x'}:gz).aA] false)))/\gA Λ' (h3.set nb (some (.aA 9 [({w with dv:=x'}:gz).aA] false))) nb {w with dv:=x'} {v with aA:=v.aA++[en]}:=by
 obtain⟨rows,p1,p2⟩:=a.aI;have l1:=mz p2;simp only[Xd]at l1;obtain⟨x',h3,e1,sc,n3,e,f⟩:=a.aP hx (bytes:=bytes) (ys:=[cs]) ω p1 (by rw[l1];have:(v.aA.length+1)*bytes<=(2^30+1)*200:=Nat.mul_le_mul ω u;exact Xg this δ);obtain⟨Λ',r1,s1,s2,c1,row⟩:=f ({w with dv:=x'}:gz).aA;refine⟨x',h3,e1,sc,n3,e,Λ',s1,r1.lt,r1.aC,row,r1.aD,r1.l ω,r1.aA,r1.aJ ω,r1.aI ω,r1.aK ω,⟨_,c1,?_⟩,r1.aH ω,r1.aG ω,r1.aF ω⟩;show gB _ _ ((v.aA++[en]).map gw.c) _;rw[XU];exact vR (gB.aA s1.zs s1.kz _ _ p2) (by simp only[XD,Yb,gB];exact⟨_,_,rfl,s2.aE hy,rfl⟩)
theorem gA.bD (a:gA Λ h nb w v){h2:fu}(hx:fq fB h h2)(n:Int)(hb:v.aE.length<=2^30):
  ∃x' h3,iL h2 1 8 w.tv [[ι n]]=some (x',h3)/\x'.aH=true/\h3[nb]?=ar 9 [w.aA]/\nb<h3.length/\∃Λ',gK Λ h Λ' (h3.set nb (some (.aA 9 [({w with tv:=x'}:gz).aA] false)))/\gA Λ' (h3.set nb (some (.aA 9 [({w with tv:=x'}:gz).aA] false))) nb {w with tv:=x'} {v with aE:=v.aE++[n]}:=by
 obtain⟨x',h3,e1,sc,n3,e,f⟩:=a.aP hx (bytes:=8) (ys:=[[ι n]]) (j:=107) ω a.aN (by simp only[iF,Xd,XI];omega);obtain⟨Λ',r1,s1,s2,c1,row⟩:=f ({w with tv:=x'}:gz).aA;have c2:gR (λm=>Λ' m=107) (h3.set nb (some (.aA 9 [({w with tv:=x'}:gz).aA] false))) 1 x' (iF (v.aE++[n])):=by
  have:iF (v.aE++[n])=iF v.aE++[[ι n]]:=by simp[iF]
  rw[this];exact c1
 refine⟨x',h3,e1,sc,n3,e,Λ',s1,r1.lt,r1.aC,row,r1.aD,r1.l ω,r1.aA,r1.aJ ω,r1.aI ω,r1.aK ω,r1.aE ω,?_,?_,?_⟩;·first | exact c2 | exact r1.then' ω
 ·first | exact c2 | exact r1.aG ω
 ·first | exact c2 | exact r1.aF ω
theorem gA.bC (a:gA Λ h nb w v){h2:fu}(hx:fq fB h h2)(n:Int)(hb:v.aF.length<=2^30):
  ∃x' h3,iL h2 1 8 w.ev [[ι n]]=some (x',h3)/\x'.aH=true/\h3[nb]?=ar 9 [w.aA]/\nb<h3.length/\∃Λ',gK Λ h Λ' (h3.set nb (some (.aA 9 [({w with ev:=x'}:gz).aA] false)))/\gA Λ' (h3.set nb (some (.aA 9 [({w with ev:=x'}:gz).aA] false))) nb {w with ev:=x'} {v with aF:=v.aF++[n]}:=by
 obtain⟨x',h3,e1,sc,n3,e,f⟩:=a.aP hx (bytes:=8) (ys:=[[ι n]]) (j:=108) ω a.aK (by simp only[iF,Xd,XI];omega);obtain⟨Λ',r1,s1,s2,c1,row⟩:=f ({w with ev:=x'}:gz).aA;have c2:gR (λm=>Λ' m=108) (h3.set nb (some (.aA 9 [({w with ev:=x'}:gz).aA] false))) 1 x' (iF (v.aF++[n])):=by
  have:iF (v.aF++[n])=iF v.aF++[[ι n]]:=by simp[iF]
  rw[this];exact c1
 refine⟨x',h3,e1,sc,n3,e,Λ',s1,r1.lt,r1.aC,row,r1.aD,r1.l ω,r1.aA,r1.aJ ω,r1.aI ω,r1.aK ω,r1.aE ω,?_,?_,?_⟩;·first | exact c2 | exact r1.aH ω
 ·first | exact c2 | exact r1.terms ω
 ·first | exact c2 | exact r1.aF ω
theorem gA.bB (a:gA Λ h nb w v){h2:fu}(hx:fq fB h h2)(n:Int)(hb:v.aH.length<=2^30):
  ∃x' h3,iL h2 1 8 w.qv [[ι n]]=some (x',h3)/\x'.aH=true/\h3[nb]?=ar 9 [w.aA]/\nb<h3.length/\∃Λ',gK Λ h Λ' (h3.set nb (some (.aA 9 [({w with qv:=x'}:gz).aA] false)))/\gA Λ' (h3.set nb (some (.aA 9 [({w with qv:=x'}:gz).aA] false))) nb {w with qv:=x'} {v with aH:=v.aH++[n]}:=by
 obtain⟨x',h3,e1,sc,n3,e,f⟩:=a.aP hx (bytes:=8) (ys:=[[ι n]]) (j:=109) ω a.aM (by simp only[iF,Xd,XI];omega);obtain⟨Λ',r1,s1,s2,c1,row⟩:=f ({w with qv:=x'}:gz).aA;have c2:gR (λm=>Λ' m=109) (h3.set nb (some (.aA 9 [({w with qv:=x'}:gz).aA] false))) 1 x' (iF (v.aH++[n])):=by
  have:iF (v.aH++[n])=iF v.aH++[[ι n]]:=by simp[iF]
  rw[this];exact c1
 refine⟨x',h3,e1,sc,n3,e,Λ',s1,r1.lt,r1.aC,row,r1.aD,r1.l ω,r1.aA,r1.aJ ω,r1.aI ω,r1.aK ω,r1.aE ω,?_,?_,?_⟩;·first | exact c2 | exact r1.aH ω
 ·first | exact c2 | exact r1.aG ω
 ·first | exact c2 | exact r1.leads ω
end
variable {P:Program}{g f s fs ft:FuncId}
theorem FO {F:Nat->Prop}{h:fu}:∀{ds:List (List D)} {es:List (List AV)} (j:Nat) {d:List D} {cs:List AV},gB F h ds es->fH F h d cs->gB F h (ds.set j d) (es.set j cs)
 | [],es,j,d,cs,hh,hd=>by simp only[gB]at hh;subst hh;simp[gB]
 | e :: ds,es,0,d,cs,hh,hd=>by simp only[gB]at hh;obtain⟨a,r,rfl,h1,h2⟩:=hh;exact⟨_,_,rfl,hd,h2⟩
 | e :: ds,es,j+1,d,cs,hh,hd=>by simp only[gB]at hh;obtain⟨a,r,rfl,h1,h2⟩:=hh;exact⟨_,_,rfl,h1,FO j h2 hd⟩
section
variable {Λ:Nat->Nat} {h h':fu} {nb:Nat} {w:gz} {v:jC}
theorem gA.aR (a:gA Λ h nb w v){k:Nat}(hk:k<v.aC.length):∃n0 j row g,jq 1 w.av (ι k)=some (.aA n0 1 j 0)/\h[n0]?=some (some (.aA 1 row g))/\row[j]?=some [ι v.aC[k]]/\n0≠nb/\n0<h.length/\Λ n0≠0 /\
  ∀n:Int,∃Λ',gK Λ h Λ' (h.set n0 (some (.aA 1 (row.set j [ι n]) g)))/\gA Λ' (h.set n0 (some (.aA 1 (row.set j [ι n]) g))) nb w {v with aC:=v.aC.set k n}:=by
 obtain⟨n0,off,row,g,e1,e2,e3,e4,f⟩:=a.aL.at (i:=k) (by simpa [iF] using hk);have hn:=(WR.1 e3).1;have e2':Λ n0=104:=e2;have nn:n0≠nb:=λy=>by rw[y,a.aC]at e2';omega
 refine⟨n0,off+k,row,g,e1,e3,by rw[e4];simp[iF],nn,hn,ω,λn=>?_⟩;obtain⟨r1,s1⟩:=a.aS (h':=h.set n0 (some (.aA 1 (row.set (off+k) [ι n]) g))) (j:=104) ω ς (λm hm hne _=>WS (λy=>hne (by rw[<-y];exact e2')));refine⟨_,s1,r1.lt,r1.aC,(WS nn).trans a.aA,r1.aD,r1.l ω,r1.aA,r1.aJ ω,?_,r1.aK ω,r1.aE ω,r1.aH ω,r1.aG ω,r1.aF ω⟩;have:=f [ι n];have e:iF (v.aC.set k n)=(iF v.aC).set k [ι n]:=by simp[iF,Zk]
 show gR _ _ 1 w.av (iF (v.aC.set k n));rw[e];exact this.aA (λm hm hlt=>(s1.aC m (by simpa using hlt)).trans hm) (λ_ _ _=>rfl)
theorem gA.aQ (a:gA Λ h nb w v){k:Nat}(hk:k<v.aD.length):∃n0 j row g x y,jq 2 w.hv (ι k)=some (.aA n0 2 j 0)/\h[n0]?=some (some (.aA 2 row g))/\row[j]?=some [x,y]/\fH (Zs Λ h) h (ji v.aD[k]).c [x,y]/\n0≠nb/\n0<h.length/\Λ n0≠0 /\
  ∀(q:fP)(x' y':AV),fH fB h (ji q).c [x',y']->∃Λ',gK Λ h Λ' (h.set n0 (some (.aA 2 (row.set j [x',y']) g)))/\gA Λ' (h.set n0 (some (.aA 2 (row.set j [x',y']) g))) nb w {v with aD:=v.aD.set k q}:=by
 obtain⟨rows,p1,p2⟩:=a.aJ;have hl:=mz p2;simp only[Xd]at hl;obtain⟨n0,off,row,g,e1,e2,e3,e4,f⟩:=p1.at (i:=k) ω;have hn:=(WR.1 e3).1;have e:Λ n0=103:=e2;have nn:n0≠nb:=λy=>by rw[y,a.aC]at e;omega
 obtain⟨cs,c1,c2⟩:=ug p2 k ((ji v.aD[k]).c) (by rw[XR,WU hk];rfl);rw[WU ω]at c1;injection c1 with c1;obtain⟨x,y,rfl⟩:∃x y,cs=[x,y]:=by
  have:=vS c2;simp only[jH.c,Xf,Xi]at this;match cs,this with
  | [x,y],_=>exact⟨x,y,rfl⟩
 refine⟨n0,off+k,row,g,x,y,e1,e3,by rw[e4,c1],c2,nn,hn,ω,λq x' y' hq=>?_⟩;obtain⟨r1,s1⟩:=a.aS (h':=h.set n0 (some (.aA 2 (row.set (off+k) [x',y']) g))) (j:=103) ω ς (λm hm u _=>WS (λy=>u (by rw[<-y];exact e)));refine⟨_,s1,r1.lt,r1.aC,(WS nn).trans a.aA,r1.aD,r1.l ω,r1.aA,⟨rows.set k [x',y'],(f [x',y']).aA (λm hm hlt=>(s1.aC m (by simpa using hlt)).trans hm) (λ_ _ _=>rfl),?_⟩,r1.aI ω,r1.aK ω,r1.aE ω,r1.aH ω,r1.aG ω,r1.aF ω⟩;show gB _ _ ((v.aD.set k q).map λx=>(ji x).c) _;rw[Zk];exact FO k (gB.aA s1.zs s1.kz _ _ p2) (fH.aA (λ_ y=>y.elim) (λ_ y=>y.elim) _ _ hq)
theorem gA.aF (a:gA Λ h nb w v){k:Nat}(hk:k<v.l.length):∃n0 j row g r,jq 1 w.lv (ι k)=some (.aA n0 1 j 0)/\h[n0]?=some (some (.aA 1 row g))/\row[j]?=some [.aA r 21 0 0]/\w.rs[k]?=some r/\jn (gQ k Λ) h r v.l[k]/\n0≠nb/\n0<h.length/\Λ n0=102 /\
  ∀cs,gR (λm=>Λ m=102) (h.set n0 (some (.aA 1 (row.set j cs) g))) 1 w.lv ((w.rs.map λr=>[AV.aA r 21 0 0]).set k cs):=by
 have e:k<w.rs.length:=by have:=a.aD;omega
 obtain⟨n0,off,row,g,e1,e2,e3,e4,f⟩:=a.l.at (i:=k) (by simpa using e);have u:Λ n0=102:=e2;exact⟨n0,off+k,row,g,w.rs[k],e1,e3,by rw[e4];simp,WU e,a.aG k e hk,λy=>by rw[y,a.aC]at u;omega,(WR.1 e3).1,u,f⟩
theorem gA.aX (a:gA Λ h nb w v){i:Nat}(hi:i<v.aG.length):∃n0 j row g e d,jq 17 w.pv (ι i)=some (.aA n0 17 j 0)/\h[n0]?=some (some (.aA 17 row g))/\row[j]?=some (v.aG[i].aF e d)/\Rd (Zs Λ h) h (gZ v.aG[i].es) e/\Rd (Zs Λ h) h (gG v.aG[i].aG) d/\Λ n0=105:=by obtain⟨rows,p1,p2⟩:=a.aH;have hl:=mz p2;simp only[Xd]at hl;obtain⟨n0,off,row,g,e1,e2,e3,e4,f⟩:=p1.at (i:=i) ω;obtain⟨cs,c1,c2⟩:=ug p2 i (v.aG[i].c) (by rw[XR,WU hi];rfl);rw[WU ω]at c1;injection c1 with c1;obtain⟨e,d,rfl,he,hd⟩:=qK c2;exact⟨n0,off+i,row,g,e,d,e1,e3,by rw[e4,c1],he,hd,e2⟩
theorem gA.aO (a:gA Λ h nb w v):iJ w.pv=some (ι v.aG.length):=by obtain⟨rows,p1,p2⟩:=a.aH;have hl:=mz p2;simp only[Xd]at hl;rw[p1.aF,hl]
theorem gA.aW (a:gA Λ h nb w v){i:Nat}(hi:i<v.aA.length):∃n0 j row g d,jq 3 w.dv (ι i)=some (.aA n0 3 j 0)/\h[n0]?=some (some (.aA 3 row g))/\row[j]?=some [ι v.aA[i].aA,ι v.aA[i].aC,d]/\Rd (Zs Λ h) h (gG v.aA[i].aD) d/\Λ n0=106:=by obtain⟨rows,p1,p2⟩:=a.aI;have hl:=mz p2;simp only[Xd]at hl;obtain⟨n0,off,row,g,e1,e2,e3,e4,f⟩:=p1.at (i:=i) ω;obtain⟨cs,c1,c2⟩:=ug p2 i (v.aA[i].c) (by rw[XR,WU hi];rfl);rw[WU ω]at c1;injection c1 with c1;simp only[gw.c,fH,Rd]at c2;obtain⟨_,_,rfl,rfl,_,_,rfl,rfl,d,_,rfl,hd,rfl⟩:=c2;exact⟨n0,off+i,row,g,d,e1,e3,by rw[e4,c1],hd,e2⟩
theorem gA.aT (a:gA Λ h nb w v):iJ w.dv=some (ι v.aA.length):=by obtain⟨rows,p1,p2⟩:=a.aI;have hl:=mz p2;simp only[Xd]at hl;rw[p1.aF,hl]
theorem Ps {F:Nat->Prop}{b:AV}{l:List Int}(c:gR F h 1 b (iF l)):iJ b=some (ι l.length):=by rw[c.aF];simp[iF]
theorem DM {F:Nat->Prop}{b:AV}{l:List Int}(c:gR F h 1 b (iF l)){i:Nat}(hi:i<l.length):∃n0 j row g,jq 1 b (ι i)=some (.aA n0 1 j 0)/\F n0/\h[n0]?=some (some (.aA 1 row g))/\row[j]?=some [ι l[i]]:=by obtain⟨n0,off,row,g,e1,e2,e3,e4,-⟩:=c.at (i:=i) (by simpa [iF] using hi);exact⟨n0,off+i,row,g,e1,e2,e3,by rw[e4];simp[iF]⟩
theorem gA.aZ (a:gA Λ h nb w v){k:Nat}(hk:k<v.l.length){r2:Nat}{R:fy}(hx:fq fB h h')(h2:h.length<=r2)(hm:jn (λm=>if m=r2 then 6 else 0) h' r2 R):
  ∃n0 j row g,jq 1 w.lv (ι k)=some (.aA n0 1 j 0)/\h'[n0]?=some (some (.aA 1 row g))/\(∃r,row[j]?=some [.aA r 21 0 0])/\n0≠nb/\n0<h.length/\Λ n0≠0/\∃Λ',gK Λ h Λ' (h'.set n0 (some (.aA 1 (row.set j [.aA r2 21 0 0]) g)))/\gA Λ' (h'.set n0 (some (.aA 1 (row.set j [.aA r2 21 0 0]) g))) nb {w with rs:=w.rs.set k r2} {v with l:=v.l.set k R}:=by
 have a2:=a.up hx;have hl:=hx.1;obtain⟨n0,j,row,g,r,e1,e2,e3,e4,e5,e6,e7,e8,f⟩:=a2.aF hk;have k5:k<5:=by have:=a.aD;omega
 have a1:n0<h.length:=W6 λy=>by have:=a.aE (m:=n0) ω;omega
 have E:=(hm.aA r2 ς).1;obtain⟨Λ',hΛ⟩:∃Λ':Nat->Nat,Λ'=λm=>if m=r2 then 10*(k+1)+6 else Λ m:=⟨_,rfl⟩
 have old:∀m,m≠r2->Λ' m=Λ m:=λm hm=>by rw[hΛ];exact WY hm
 have new:Λ' r2=10*(k+1)+6:=by rw[hΛ];exact WW rfl
 have hs:∀m,m≠n0->(h'.set n0 (some (.aA 1 (row.set j [.aA r2 21 0 0]) g)))[m]?=h'[m]?:=λm hm=>WS (λy=>hm y.symm);have len:(h'.set n0 (some (.aA 1 (row.set j [.aA r2 21 0 0]) g))).length=h'.length:=W4;have sm:gK Λ h Λ' (h'.set n0 (some (.aA 1 (row.set j [.aA r2 21 0 0]) g))):=⟨by rw[len];exact hl,λm hm=>old m ω,λm hm z=>(hs m (λy=>by rw[y]at z;omega)).trans (hx.2 m hm (λy=>y)),λm hm z=>(hs m (λy=>by rw[y]at z;omega)).trans (hx.2 m hm (λy=>y))⟩;have sm2:∀m,Λ m=0->m≠r2->Λ' m=0:=λm z c=>(old m c).trans z;have cc:∀{i sz:Nat}{b:AV} {es:List (List AV)},i≠102->100<=i->gR (λm=>Λ m=i) h' sz b es->gR (λm=>Λ' m=i) (h'.set n0 (some (.aA 1 (row.set j [.aA r2 21 0 0]) g))) sz b es:=λhi h1 c=>c.aA (λm hm hlt=>by
  have u:Λ m=_:=hm;have:m≠r2:=λy=>by rw[y,a.aE h2]at u;omega
  exact (old m this).trans hm) (λm hm hlt=>hs m (λy=>by have u:Λ m=_:=hm;rw[y,e8]at u;omega))
 have rr:∀{ds rows},gB (Zs Λ h) h ds rows->gB (Zs Λ' (h'.set n0 (some (.aA 1 (row.set j [.aA r2 21 0 0]) g)))) (h'.set n0 (some (.aA 1 (row.set j [.aA r2 21 0 0]) g))) ds rows:=λc=>gB.aA sm.zs sm.kz _ _ c;obtain⟨hr,h1,_⟩:=a2.aJ;obtain⟨a3,a5,a4⟩:=a.aJ;obtain⟨U,Z,W⟩:=a.aH;obtain⟨a6,a8,a7⟩:=a.aI;have up:∀{i sz:Nat}{b:AV} {es:List (List AV)},gR (λm=>Λ m=i) h sz b es->gR (λm=>Λ m=i) h' sz b es:=λc=>c.aA (λ_ y _=>y) (λm _ hlt=>hx.2 m hlt (λy=>y));refine⟨n0,j,row,g,e1,e2,⟨r,e3⟩,e6,a1,ω,Λ',sm,λm u=>?_,(old nb (λy=>by have:=a.lt nb (by rw[a.aC];omega);omega)).trans a.aC,(hs nb (λy=>e6 y.symm)).trans a2.aA,⟨by rw[W4,W4];exact a.aD.1,by rw[W4];exact a.aD.2⟩,?_,λi i1 i2=>?_,⟨a3,cc ω ω (up a5),rr a4⟩,cc ω ω (up a.aL),⟨U,cc ω ω (up Z),rr W⟩,⟨a6,cc ω ω (up a8),rr a7⟩,cc ω ω (up a.aN),cc ω ω (up a.aK),cc ω ω (up a.aM)⟩
 ·rw[len];by_cases c:m=r2;·rw[c];exact E
  ·rw[old m c]at u;exact Xj (a.lt m u) hl
 ·have:=f [.aA r2 21 0 0];rw[Zk];exact this.aA (λm hm hlt=>by
   have u:Λ m=102:=hm;have:m≠r2:=λy=>by rw[y,a.aE h2]at u;omega
   exact (old m this).trans hm) (λ_ _ _=>rfl)
 ·have I:i<v.l.length:=by simpa using i2
  have O:i<w.rs.length:=by simpa using i1
  have gs:(v.l.set k R)[i]'i2=if k=i then R else v.l[i]:=Zu i2
  have gr:(w.rs.set k r2)[i]'i1=if k=i then r2 else w.rs[i]:=Zu i1
  rw[gs,gr];by_cases c:k=i
  ·subst c;rw[WW rfl,WW rfl];obtain⟨⟨gg,ff,ra⟩,lab⟩:=hm;have pk:gQ k Λ' r2=6:=by unfold gQ;rw[new,WW ω];omega
   have no:∀q m,q≠0->q≠6->(if m=r2 then 6 else 0)=q->False:=λq m h0 h6 e=>by split at e<;>omega
   have nr:r2≠n0:=ω;refine⟨⟨gg,ff,(hs r2 nr).trans ra.aA,fA.aC _ (λm e=>(no 1 m ω ω e).elim) (λm e=>(no 1 m ω ω e).elim) _ ra.go,ra.gc.aA ra.go (λm e=>(no 1 m ω ω e).elim),fA.aC _ (λm e=>(no 2 m ω ω e).elim) (λm e=>(no 2 m ω ω e).elim) _ ra.fo,ra.fc.aA ra.fo (λm e=>(no 2 m ω ω e).elim),pk⟩,λm u=>?_⟩;rw[len];by_cases c2:m=r2;·rw[c2,pk];exact⟨E,.inr (.inr rfl)⟩
   ·have e:gQ k Λ' m=gQ k Λ m:=by unfold gQ;rw[old m c2]
    rw[e]at u ⊢;have:=(a.aG k O I).aA m u;exact⟨ω,this.2⟩
  ·rw[WY c,WY c];have e:gQ i Λ'=gQ i Λ:=by
    funext m
    by_cases c2:m=r2
    ·rw[c2];unfold gQ;rw[new,a.aE h2,WY ω];simp
    ·unfold gQ;rw[old m c2]
   rw[e];have m0:=a2.aG i O I;refine m0.aC (by rw[len];exact WX _) (λm u=>hs m (λy=>?_));unfold gQ at u;rw[y,e8]at u;have:i<5:=by have:=a.aD;omega
   split at u;·omega
   ·exact absurd rfl u
end
variable {P:Program}{g f s fs ft:FuncId}
theorem zm {row:List (List AV)}{j:Nat}{o x:AV} (h:row[j]?=some [o]):(row.modify j λc=>c.set 0 x)=row.set j [x]:=by
 obtain⟨hj,e⟩:=WR.1 h;apply XT;intro i;rw[Zb,Yz];by_cases c:j=i;·subst c;rw[WW rfl,WW hj,WU hj,e];simp
 ·rw[WY c];cases row[i]?<;>simp[c]
structure Fb (v:jC)(k n:Nat)(ap D':List gw)(fst:Int)(rst:Bool):Prop where
 k5:k<5/\v.aC.length=5/\v.aD.length=5
 n0:∀(h1:k<v.aD.length)(h2:k<v.aC.length),(n:Int)=if rst=true then v.aD[k].aA.aA else v.aC[k]
 le:n<=v.aA.length
 aC:ap≠[]->fst=n+1
 aF:v.aA<+:D'
 aD:∀i,i<ap.length->D'[n+i]?=ap[i]?
 aE:D'.length=max v.aA.length (n+ap.length)/\D'.length<=2^29
 aA:∀e∈ap,e.aD.length<=2^40
 aG:v.aE.length=v.aA.length
def z7 (P:Program)(f:FuncId):Prop:=fZ P f=true/\∀(Λ:Nat->Nat)(h:fu)(nb:Nat)(w:gz)(v:jC)(k n:Nat)(term:Int)(ma ca aa:AV)(ap D':List gw)(fst:Int)(rst:Bool),gA Λ h nb w v->Fb v k n ap D' fst rst->
 Rd (Zs Λ h) h (gZ ap) aa->ma.aH=true->ca.aH=true->
 fO P f [.aA nb 9 0 0,.aD .i64 k,.aD .i64 term,.aF [ma,ca,aa,.aD .i64 fst,.aE rst]] h λ_ h'=>∃Λ' w',gK Λ h Λ' h'/\w'.rs=w.rs/\gA Λ' h' nb w' {v with aC:=v.aC.set k ((n+ap.length:Nat):Int),aA:=D',aE:=v.aE++List.replicate (D'.length-v.aA.length) term}
def jG (D D':List gw)(m:Nat):List gw:=if m<=D.length then D else D'.take m
theorem NY {D D':List gw}{m:Nat}(pre:D<+:D')(hm:m<D'.length)(h:D.length<=m):jG D D' m++[D'[m]]=jG D D' (m+1)/\(jG D D' m).length=m:=by
 have e:jG D D' m=D'.take m:=by
  unfold jG;split;·have:m=D.length:=ω;subst this;obtain⟨t,rfl⟩:=pre;simp
  ·rfl
 rw[e];have e2:jG D D' (m+1)=D'.take (m+1):=by unfold jG;rw[WY ω]
 rw[e2,XE hm];exact⟨rfl,by simp;omega⟩
theorem LQ (u:uj P g){Λ:Nat->Nat}{h:fu}{nb b:Nat}{w:gz}{v:jC}{k n:Nat}{term fst:Int}{ma ca aa:AV}{an:Bool}{ap D':List gw}{L:gx}{K:AX->St->Prop}(a:gA Λ h nb w v)
  (k0:lk 0 L=.aA nb 9 0 0) (k1:lk 1 L=ι k) (k2:lk 2 L=ι term) (k7:lk 7 L=.aA b 5 0 0) (k8:lk 8 L=ι (0:Int)) (hB:h[b]?=ar 5 [[ma,ca,aa,ι fst,.aE an]]) (ah:Λ b=0) (sm:ma.aH=true) (sc:ca.aH=true) (ra:Rd (Zs Λ h) h (gZ ap) aa) (ax:iJ aa=some (ι ap.length))
  (hk:k<5/\v.aC.length=5) (b0:∀hh:k<v.aC.length,v.aC[k]=(n:Int)) (au:n<=v.aA.length) (pre:v.aA<+:D') (b5:∀i,i<ap.length->D'[n+i]?=ap[i]?) (hlen:D'.length=max v.aA.length (n+ap.length)/\D'.length<=2^29) (a6:∀e∈ap,e.aD.length<=2^40) (hth:v.aE.length=v.aA.length)
  (hK:∀Lv h' Λ' w',gK Λ h Λ' h'->w'.rs=w.rs->gA Λ' h' nb w' {v with aC:=v.aC.set k ((n+ap.length:Nat):Int),aA:=D',aE:=v.aE++List.replicate (D'.length-v.aA.length) term}->K (.aD 0) ⟨Lv,[],h'⟩):
  vc P (.aD (yy g)) ⟨L,[],h⟩ K:=by
 have a5:=(WR.1 hB).1;obtain⟨I,hI⟩:∃I:Nat->gx->fu->Prop,∀m Lv h',I m Lv h'↔∃(i:Nat)(Λ':Nat->Nat)(w':gz),(lk 0 Lv=.aA nb 9 0 0/\lk 1 Lv=ι k/\lk 2 Lv=ι term/\lk 7 Lv=.aA b 5 0 0/\lk 8 Lv=ι (i:Int))/\gK Λ h Λ' h'/\w'.rs=w.rs /\
   gA Λ' h' nb w' {v with aC:=v.aC.set k ((n+i:Nat):Int),aA:=jG v.aA D' (n+i),aE:=v.aE++List.replicate ((jG v.aA D' (n+i)).length-v.aA.length) term}/\i<=ap.length/\m=ap.length-i:=⟨_,λ_ _ _=>YD⟩
 have d0:jG v.aA D' n=v.aA:=by unfold jG;rw[WW au]
 refine iP I ap.length ((hI _ _ _).2 ⟨0,Λ,w,⟨k0,k1,k2,k7,by simpa using k8⟩,gK.aF _ _,rfl,?_,ω,ω⟩) ?_
 ·have e:=b0 ω;have:({v with aC:=v.aC.set k ((n+0:Nat):Int),aA:=jG v.aA D' (n+0),aE:=v.aE++List.replicate ((jG v.aA D' (n+0)).length-v.aA.length) term}:jC)=v:=by rw[Y8,d0,ZF,List.replicate_zero,Yd,<-e,YP]
  rw[this];exact a
 intro m Lv h1 hh;obtain⟨i,Λ1,w1,⟨k0,k1,k2,k7,k8⟩,s1,wr,a1,hi,rfl⟩:=(hI _ _ _).1 hh;clear hh;have B1:=(s1.z b a5 ah).trans hB;have z1:=(s1.aC b a5).trans ah;have ac:=s1.rd ra;simp only[yy,go_sem,k7,k8,B1,ax];refine iQ (λci=>?_) (λci=>?_)
 ·simp at ci;have ci:i<ap.length:=ω;have Z:=a1.aA;simp only[gz.aA]at Z;obtain⟨bn,bj,a4,bg,j1,j2,j3,j4,j5,j6,j7⟩:=a1.aR (k:=k) (by simp;omega);have ay:a4[bj]?=some [ι ((n+i:Nat):Int)]:=by rw[j3];simp
  have dl:=a1.aT;simp only at dl;have dlen:(jG v.aA D' (n+i)).length=max v.aA.length (n+i):=by
   unfold jG;split;·omega
   ·simp only[W7];omega
  have ba:¬(((jG v.aA D' (n+i)).length:Int)<((n+i:Nat):Int)):=ω;have ag:n+i<D'.length:=ω;simp only[go_sem,k0,k1,Z,j1,j2,ay,dl,WV ba];have b7:IntKind.i64.wrap ((i:Int)+1)=((i+1:Nat):Int):=by rw[gF ω];omega
  have b6:IntKind.i64.wrap (((n+i:Nat):Int)+1)=((n+(i+1):Nat):Int):=by rw[gF ω];omega
  obtain⟨p,cs,q1,q2,q3⟩:=Rd.aD ac .i64 (i:=(i:Int)) (d:=(ap[i]).c) ω (by rw[show ((i:Int)).toNat=i by omega,XR,WU ci];rfl);have af:=q3;simp only[gw.c,fH,Rd]at q3;obtain⟨_,_,rfl,rfl,_,_,rfl,rfl,d,_,rfl,qd,rfl⟩:=q3;have E:=b5 i ci;have b9:=a6 _ (Xq ci);have a8:(ap.map gw.c)[i]?=some (ap[i]).c:=by rw[XR,WU ci];rfl
  rw[WU ag,WU ci]at E;injection E with E;generalize ap[i]=en at *;have bd:iK h1 true 3 p=some (.aF [ι en.aA,ι en.aC,d]):=by rw[jN q2];rfl
  have ak:∀x,iK (h1++[x]) true 3 p=some (.aF [ι en.aA,ι en.aC,d]):=λx=>by rw[jN (tJ q2 (fq.b1 x))];rfl
  have sd:=qd.aA;refine Kf (λs=>∃L2 H2 Λ2 w2,s=⟨L2,[],H2⟩/\(lk 0 L2=.aA nb 9 0 0/\lk 1 L2=ι k/\lk 2 L2=ι term/\lk 7 L2=.aA b 5 0 0/\lk 8 L2=ι (i:Int)/\lk 9 L2=ι ((n+i:Nat):Int))/\gK Λ1 h1 Λ2 H2/\w2.rs=w.rs /\
   gA Λ2 H2 nb w2 {v with aC:=v.aC.set k ((n+i:Nat):Int),aA:=jG v.aA D' (n+(i+1)),aE:=v.aE++List.replicate ((jG v.aA D' (n+(i+1))).length-v.aA.length) term}) ?_ ?_
  ·by_cases ce:v.aA.length<=n+i
   ·have a9:(((n+i:Nat):Int))=(jG v.aA D' (n+i)).length:=ω;obtain⟨aj,ds2⟩:=NY pre ag ce;have nbl:=(WR.1 a1.aA).1;have R1:∀x,(h1++[x])[nb]?=_:=λx=>(fq.b1 x).aA Z;have al:∀x,(h1++[x])[b]?=_:=λx=>(fq.b1 x).aA B1;have N1:∀sz i o,ij h1.length 1 (.aA nb sz i o)=true:=λsz i o=>iN ω;have N2:∀sz i o,ij h1.length 1 (.aA b sz i o)=true:=λsz i o=>iN (by have:=(WR.1 B1).1;omega);simp only[go_sem,kj,k0,k7,k8,R1,al,WZ a9,q1,ak,sd,N1,N2];refine⟨IS q2 _,?_⟩;have ae:=mH h1 3 [[ι en.aA,ι en.aC,d]] false (some 1) (len:=1) rfl;have X2:fq fB h1 (h1++[some (fC.aA 3 [[ι en.aA,ι en.aC,d]] false)]):=fq.b1 _;obtain⟨x',h3,e1,sx,n3,aw,Λ2,t1,t2⟩:=a1.bz X2 (en:=en) ((gK.up X2:gK Λ1 h1 Λ1 _).aE af) (by simp only;omega) (bytes:=40) δ;rw[<-iR ae]at e1;simp only[gz.aA]at n3 t1 t2;obtain⟨H3,a7⟩:∃H3,H3=h3.set nb (some (fC.aA 9 [[w1.lv,w1.hv,w1.av,w1.pv,x',w1.tv,w1.ev,w1.qv,.aE false]] false)):=⟨_,rfl⟩;rw[<-a7]at t1 t2;simp only[go_sem,e1,sx,gV sx,n3,kj,<-a7,k0];have U:=t2.aA;simp only[gz.aA]at U;clear a7 e1 ae af q2 n3 aw R1 al N1 N2 ak bd;have ae:=mH H3 1 [[ι term]] false (some 1) (len:=1) rfl;have X4:fq fB H3 (H3++[some (fC.aA 1 [[ι term]] false)]):=fq.b1 _;have R4:(H3++[some (fC.aA 1 [[ι term]] false)])[nb]?=_:=X4.aA U;obtain⟨x4,h4,e4,ab,n4,nl4,Λ4,u1,u2⟩:=t2.bD X4 term (by simp only[WT,YE];omega);rw[<-iR ae]at e4;simp only[gz.aA]at n4 u1 u2;obtain⟨H4,ai⟩:∃H4,H4=h4.set nb (some (fC.aA 9 [[w1.lv,w1.hv,w1.av,w1.pv,x',x4,w1.ev,w1.qv,.aE false]] false)):=⟨_,rfl⟩;rw[<-ai]at u1 u2;simp only[go_sem,k2,U,e4,ab,gV ab,n4,<-ai];refine⟨_,_,Λ4,{w1 with dv:=x',tv:=x4},rfl,⟨by simp[fE,k0],by simp[fE,k1],by simp[fE,k2],by simp[fE,k7],by simp[fE,k8],by simp[fE]⟩,t1.aA u1,wr,?_⟩;have e5:(jG v.aA D' (n+(i+1))).length-v.aA.length=((jG v.aA D' (n+i)).length-v.aA.length)+1:=by
     have:(jG v.aA D' (n+(i+1))).length=(jG v.aA D' (n+i)).length+1:=by rw[show n+(i+1)=n+i+1 by omega,<-aj];simp
     omega
    rw[e5,List.replicate_succ',<-Xl,show n+(i+1)=n+i+1 by omega,<-aj,E];exact u2
   ·have a9:¬(((n+i:Nat):Int))=(jG v.aA D' (n+i)).length:=ω;simp only[go_sem,WV a9];have e5:jG v.aA D' (n+(i+1))=jG v.aA D' (n+i):=by unfold jG;rw[WW ω,WW ω]
    refine⟨_,_,Λ1,_,rfl,⟨by simp[fE,k0],by simp[fE,k1],by simp[fE,k2],by simp[fE,k7],by simp[fE,k8],by simp[fE]⟩,gK.aF _ _,wr,?_⟩;rw[e5];exact a1
  ·rintro s ⟨L2,H2,Λ2,w2,rfl,⟨k0,k1,k2,k7,k8,k9⟩,s2,am,a2⟩;have W:=a2.aA;simp only[gz.aA]at W;have b8:=a2.aT;simp only at b8;have B2:=(s2.z b (by have:=s1.aD;omega) z1).trans B1;have O:n+i<(jG v.aA D' (n+(i+1))).length:=by
    unfold jG;split;·omega
    ·simp only[W7];omega
   have ed:(jG v.aA D' (n+(i+1)))[n+i]=en:=by
    rw[<-E];unfold jG at O ⊢;split;·rename_i c;obtain⟨t,rfl⟩:=pre;rw[YC]
    ·simp only[YA]
   obtain⟨nd,jd,drow,dg,d2,g1,g2,g3,g4,g5⟩:=a2.aW (i:=n+i) O;simp only[ed]at g3 g4;have jdl:=(WR.1 g3).1;have ao:=s2.rd ac;obtain⟨p2,cs2,ar,aq,a3⟩:=Rd.aD ao .i64 (i:=(i:Int)) (d:=en.c) ω (by rw[show ((i:Int)).toNat=i by omega];exact a8);have q5:=a3;simp only[gw.c,fH,Rd]at a3;obtain⟨_,_,rfl,rfl,_,_,rfl,rfl,d3,_,rfl,qd3,rfl⟩:=a3;have LD:iK H2 true 3 p2=some (.aF [ι en.aA,ι en.aC,d3]):=by rw[jN aq];rfl
   have q4:fH (Zs Λ2 H2) H2 en.c [ι en.aA,ι en.aC,d2]:=by simp only[gw.c,fH,Rd];exact⟨_,_,rfl,rfl,_,_,rfl,rfl,d2,_,rfl,g4,rfl⟩
   have GD:iK H2 true 3 (.aA nd 3 jd 0)=some (.aF [ι en.aA,ι en.aC,d2]):=by simp only[go_sem,g2,g3]
   simp only[go_sem,k0,k7,k8,k9,W,B2,g1,g2,g3,ar,LD];refine fK ⟨u.1,u.2 _ H2 en en _ _ q4 q5 b9⟩ ?_;rintro _ h9 ⟨rfl,e9⟩;rw[e9];clear e9 h9;obtain⟨bn,bj,a4,bg,j1,j2,j3,j4,j5,j6,j7⟩:=a2.aR (k:=k) (by simp;omega);obtain⟨Λ3,t1,t2⟩:=j7 ((n+(i+1):Nat):Int);have bc:=(WR.1 j3).1;simp only[go_sem,k0,k1,k8,k9,W,B2,LD,GD,j1,j2,bc,zm j3,b6,b7];refine⟨_,ω,(hI _ _ _).2 ⟨i+1,Λ3,w2,⟨by simp[fE,k0],by simp[fE,k1],by simp[fE,k2],by simp[fE,k7],by simp[fE]⟩,(s1.aA s2).aA t1,am,?_,ω,rfl⟩⟩;simp only[Yi]at t2;exact t2
 ·simp at ci;have:i=ap.length:=ω;subst this;simp only[go_sem];refine hK _ _ Λ1 w1 s1 wr ?_;have e:jG v.aA D' (n+ap.length)=D':=by
   unfold jG;split;·exact List.IsPrefix.eq_of_length pre ω
   ·exact Xu ω
  rw[e]at a1;exact a1
theorem LR (hf:Is P f (Bx g))(u:uj P g):z7 P f:=by
 refine⟨hf.2,λΛ h nb w v k n term ma ca aa ap D' fst O a af ra sm sc=>gy hf ?_⟩;obtain⟨⟨k5,kA,kH⟩,n0,a8,Z,pre,ac,⟨W,a4⟩,a3,ab⟩:=af;obtain⟨H,hH⟩:∃H,H=h++[some (fC.aA 5 [[ma,ca,aa,ι fst,.aE O]] false)]:=⟨_,rfl⟩;have X1:fq fB h H:=by rw[hH];exact fq.b1 _
 have B1:H[h.length]?=ar 5 [[ma,ca,aa,ι fst,.aE O]]:=by rw[hH];exact h_ _ _
 have a1:=a.up X1;have s1:gK Λ h Λ H:=gK.up X1;have ra1:=s1.rd ra;have z0:Λ h.length=0:=a.aE (WX _);have sa:=ra.aA;have U:iJ aa=some (ι ap.length):=by have:=ra.aC;simpa [gZ] using this
 have E:=a1.aA;simp only[gz.aA]at E;have hl:H.length=h.length+1:=by rw[hH];simp
 obtain⟨hn,hj,hrow,hg,hx,hy,i1,i2,i3,i4,i5,i6,i7,-⟩:=a1.aQ (k:=k) ω;obtain⟨an,aj,arow,ag,j1,j2,j3,j4,j5,j6,j7⟩:=a1.aR (k:=k) ω;simp only[Bx,go_sem,sm,sc,sa];rw[<-hH];clear hH;simp only[jH.c,ji,fH]at i4;obtain⟨hx',_,e1,rh,hy',_,e2,-⟩:=i4;injection e1 with e1 e1';subst e1;obtain⟨p,cs,q1,q2,q3⟩:=Rd.aD rh .i64 (i:=(0:Int)) (d:=v.aD[k].c) ω rfl;obtain⟨he,ho,hnn,hll,hss,rfl,-⟩:=m7 q3;refine Kf (λs=>∃L1 H2 Λ2,s=⟨L1,[],H2⟩/\(lk 0 L1=.aA nb 9 0 0/\lk 1 L1=ι k/\lk 2 L1=ι term/\lk 7 L1=.aA h.length 5 0 0)/\gK Λ h Λ2 H2/\gK Λ H Λ2 H2/\gA Λ2 H2 nb w {v with aC:=v.aC.set k (n:Int)}) ?_ ?_
 ·cases O
  ·simp only[go_sem];have e:v.aC.set k (n:Int)=v.aC:=by have:=n0 ω ω;simp only[Xt,XS]at this;rw[this,YP]
   exact⟨_,_,Λ,rfl,⟨by simp[fE,iw],by simp[fE,iw],by simp[fE,iw],by simp[fE]⟩,s1,gK.aF _ _,by rw[e];exact a1⟩
  ·have f1:=oW q2 3;have f2:=oW (wU q2 3) 0;have f3:iK H false 1 (py 0 (py 3 p))=some (ι v.aD[k].aA.aA):=by rw[pR (wU q2 3) 0];rfl
   have ae:=(WR.1 j3).1;simp only[go_sem,E,i1,i2,i3,q1,f1,f2,f3,j1,j2,ae];obtain⟨Λ2,t1,t2⟩:=j7 v.aD[k].aA.aA;have e:=n0 ω ω;simp only[Yc]at e;rw[zm j3];exact⟨_,_,Λ2,rfl,⟨by simp[fE,iw],by simp[fE,iw],by simp[fE,iw],by simp[fE]⟩,s1.aA t1,t1,by rw[e];exact t2⟩
 ·rintro s ⟨L1,H2,Λ2,rfl,⟨k0,k1,k2,k7⟩,s2,a6,a2⟩;have I:=a2.aA;simp only[gz.aA]at I;have B2:=(a6.z h.length ω z0).trans B1;have z2:=(a6.aC h.length ω).trans z0;have a7:=s2.rd ra;clear j7 i7 j2 j3 E a1 B1 i2 i3 q1 q2 q3 rh;obtain⟨bn,bj,a5,bg,j1,j2,j3,j4,j5,j6,-⟩:=a2.aR (k:=k) (by simp;omega);have a9:a5[bj]?=some [ι (n:Int)]:=by rw[j3];simp
  have ew:IntKind.i64.wrap ((n:Int)+1)=n+1:=gF ω;have fin:∀Lv:gx,lk 0 Lv=.aA nb 9 0 0->lk 1 Lv=ι k->lk 2 Lv=ι term->lk 7 Lv=.aA h.length 5 0 0->lk 8 Lv=ι (0:Int)->vc P (.aD (yy g)) ⟨Lv,[],H2⟩ (wH 0 (iS [] λ_ h'=>∃Λ' w',gK Λ h Λ' h'/\w'.rs=w.rs/\gA Λ' h' nb w' {v with aC:=v.aC.set k ((n+ap.length:Nat):Int),aA:=D',aE:=v.aE++List.replicate (D'.length-v.aA.length) term})):=by
   intro Lv e0 e1 e2 e7 e8;refine LQ u a2 (n:=n) (ap:=ap) (D':=D') e0 e1 e2 e7 e8 B2 z2 sm sc a7 U ⟨k5,by simp;omega⟩ (by intro hh;simp) a8 pre ac ⟨W,a4⟩ a3 ab (λLw h3 Λ3 w3 t1 t2 t3=>?_);simp only[go_sem];refine⟨Λ3,w3,s2.aA t1,t2,?_⟩;have e:{({v with aC:=v.aC.set k (n:Int)}:jC) with aC:=(v.aC.set k (n:Int)).set k ((n+ap.length:Nat):Int),aA:=D',aE:=v.aE++List.replicate (D'.length-v.aA.length) term}={v with aC:=v.aC.set k ((n+ap.length:Nat):Int),aA:=D',aE:=v.aE++List.replicate (D'.length-v.aA.length) term}:=by simp only[Yi]
   rw[<-e];exact t3
  by_cases ca0:ap=[]
  ·have c0:¬((0:Int)<ap.length):=by rw[ca0];simp
   simp only[go_sem,k7,B2,U,WV c0];exact fin _ (by simp[fE,k0]) (by simp[fE,k1]) (by simp[fE,k2]) (by simp[fE,k7]) (by simp[fE])
  ·have c0:(0:Int)<ap.length:=by have:=Zy.2 ca0;omega
   have c1:=Z ca0;simp only[go_sem,k0,k1,k7,I,B2,U,WZ c0,j1,j2,a9,ew,WZ c1,XL];exact fin _ (by simp[fE,k0]) (by simp[fE,k1]) (by simp[fE,k2]) (by simp[fE,k7]) (by simp[fE])
variable {P:Program}{g f s fs ft:FuncId}
structure As (v:jC)(who:Int)(x:fP):Prop where
 aE:∀(i:Nat) t j,v.aF[i]?=some t->v.aH[i]?=some j->t=x.aC->j=who
 aD:∀(n:Nat) e,x.aA.aA<=n->v.aA[n]?=some e->∀t,v.aE[n]?=some t->t<x.aC->x.aA.aH (n+1) 1=[e]
 ok:kh x.aA
 aA:v.aH.length=v.aF.length/\v.aF.length<=2^29
 aC:v.aE.length=v.aA.length/\v.aA.length<=2^29
def Au (P:Program)(f:FuncId):Prop:=fZ P f=true/\∀(Λ:Nat->Nat)(h:fu)(nb:Nat)(w:gz)(v:jC)(who:Int)(x:fP)(cs:List AV),gA Λ h nb w v->As v who x->fH (Zs Λ h) h x.c cs->
 fO P f [.aA nb 9 0 0,.aD .i64 who,.aF cs] h λ_ h'=>∃Λ' w',gK Λ h Λ' h'/\w'.rs=w.rs/\gA Λ' h' nb w' {v with aF:=if x.aC∈v.aF then v.aF else v.aF++[x.aC],aH:=if x.aC∈v.aF then v.aH else v.aH++[who]}
theorem Qn {Λ:Nat->Nat}{H:fu}{nb b:Nat}{w:gz}{v:jC}{who:Int}{x:fP}{e o n l d:AV}{L:gx}{K:AX->St->Prop}(a:gA Λ H nb w v)
  (k0:lk 0 L=.aA nb 9 0 0) (k1:lk 1 L=ι who) (k5:lk 5 L=.aA b 10 0 0) (k6:lk 6 L=ι (0:Int)) (hB:H[b]?=ar 10 [x.aH e o n l d]) (ai:As v who x)
  (O:∀Lv,x.aC∉v.aF->lk 0 Lv=.aA nb 9 0 0->lk 1 Lv=ι who->lk 5 Lv=.aA b 10 0 0->K (.aD 0) ⟨Lv,[],H⟩)
  (E:∀Lv,x.aC∈v.aF->K .aC ⟨Lv,[],H⟩):vc P (.aD (BF s g)) ⟨L,[],H⟩ K:=by
 obtain⟨I,hI⟩:∃I:Nat->gx->fu->Prop,∀m Lv h',I m Lv h'↔∃i:Nat,(lk 0 Lv=.aA nb 9 0 0/\lk 1 Lv=ι who/\lk 5 Lv=.aA b 10 0 0/\lk 6 Lv=ι (i:Int))/\h'=H/\(∀j,j<i->v.aF[j]?≠some x.aC)/\i<=v.aF.length/\m=v.aF.length-i:=⟨_,λ_ _ _=>YD⟩;refine iP I v.aF.length ((hI _ _ _).2 ⟨0,⟨k0,k1,k5,by simpa using k6⟩,rfl,λj hj=>ω,ω,ω⟩) ?_;intro m Lv h1 hh;obtain⟨i,⟨k0,k1,k5,k6⟩,rfl,hn,hi,rfl⟩:=(hI _ _ _).1 hh;clear hh;have u:=a.aA;simp only[gz.aA]at u;have tl:=Ps a.aK;obtain⟨led,-,-,⟨ll,l29⟩,-⟩:=ai;simp only[fP.aH]at hB;simp only[BF,go_sem,k0,k6,u,tl];refine iQ (λci=>?_) (λci=>?_)
 ·simp at ci;have ci:i<v.aF.length:=ω;have U:IntKind.i64.wrap ((i:Int)+1)=((i+1:Nat):Int):=by rw[gF ω];omega
  obtain⟨n1,j1,r1,g1,e1,-,e3,e4⟩:=DM a.aK ci;have el:=(WR.1 e4).1;obtain⟨n2,j2,r2,g2,f1,-,f3,f4⟩:=DM a.aM (i:=i) ω;have fl:=(WR.1 f4).1;simp only[go_sem,k0,k5,k6,u,hB,e1,e3,e4];refine iQ (λc=>?_) (λc=>?_)
  ·simp at c;have e:=led i _ _ (WU ci) (WU ω) c;have hs:h1.set nb (some (.aA 9 [[w.lv,w.hv,w.av,w.pv,w.dv,w.tv,w.ev,w.qv,.aE false]] false))=h1:=by have nbl:=(WR.1 u).1;have e2:=(WR.1 u).2;rw[<-e2];exact YP _
   simp only[go_sem,k0,k1,k6,u,f1,f3,f4,e,hs];exact E _ (by rw[<-c];exact Xq _)
  ·simp at c;simp only[go_sem,k6,U];refine⟨_,ω,(hI _ _ _).2 ⟨i+1,⟨by simp[fE,k0],by simp[fE,k1],by simp[fE,k5],by simp[fE]⟩,rfl,λj hj=>?_,ω,rfl⟩⟩;by_cases c2:j=i;·subst c2;rw[WU ci];simpa using c
   ·exact hn j ω
 ·simp at ci;simp only[go_sem];refine O _ (λhm=>?_) (by simp[fE,k0]) (by simp[fE,k1]) (by simp[fE,k5]);obtain⟨j,hj,e⟩:=List.getElem_of_mem hm;exact hn j ω (by rw[WU hj,e])
theorem Qo (us:oT P s)(ue:uj P g){Λ:Nat->Nat}{H:fu}{nb b:Nat}{w:gz}{v:jC}{x:fP}{e o n l d:AV}{L:gx}{K:AX->St->Prop}(a:gA Λ H nb w v)
  (k0:lk 0 L=.aA nb 9 0 0) (k5:lk 5 L=.aA b 10 0 0) (k7:lk 7 L=ι (x.aA.aA+1)) (hB:H[b]?=ar 10 [x.aH e o n l d]) (hb:Λ b=0) (he:Rd (Zs Λ H) H (gZ x.aA.es) e) (ok:kh x.aA)
  (O:∀(n:Nat) e,x.aA.aA<=n->v.aA[n]?=some e->∀t,v.aE[n]?=some t->t<x.aC->x.aA.aH (n+1) 1=[e]) (hlen:v.aE.length=v.aA.length/\v.aA.length<=2^29)
  (hK:∀Lv h',fq fB H h'->K (.aD 2) ⟨Lv,[],h'⟩):vc P (.aD (BG s g)) ⟨L,[],H⟩ K:=by
 obtain⟨B,a8⟩:∃B:Nat,x.aA.aA=B:=⟨x.aA.aA.toNat,by have:=ok.1;omega⟩;have B41:B<=2^41:=by have:=ok.2.1;omega
 obtain⟨I,hI⟩:∃I:Nat->gx->fu->Prop,∀m Lv h',I m Lv h'↔∃i:Nat,(lk 0 Lv=.aA nb 9 0 0/\lk 5 Lv=.aA b 10 0 0/\lk 7 Lv=ι ((i+1:Nat):Int))/\fq fB H h'/\B<=i/\m=v.aA.length-i:=⟨_,λ_ _ _=>YD⟩;refine iP I (v.aA.length-B) ((hI _ _ _).2 ⟨B,⟨k0,k5,by rw[k7,a8];rfl⟩,fq.aC _ _,ω,ω⟩) ?_;intro m Lv h1 hh;obtain⟨i,⟨k0,k5,k7⟩,X1,hi,rfl⟩:=(hI _ _ _).1 hh;clear hh;have a1:=a.up X1;have E:=a1.aA;simp only[gz.aA]at E;have dl:=a1.aT;have B1:=X1.aA hB;have a7:=he.up X1;have sc:=he.aA;simp only[fP.aH]at B1;simp only[BG,go_sem,k0,k7,E,dl];refine iQ (λci=>?_) (λci=>?_)
 ·simp at ci;have ci:i<v.aA.length:=ω;have a4:IntKind.i64.wrap (((i+1:Nat):Int)+1)=((i+1+1:Nat):Int):=by rw[gF ω];omega
  have a3:IntKind.i64.wrap (((i+1:Nat):Int)-1)=((i:Nat):Int):=by rw[gF ω];omega
  have rl:fH (Zs Λ H) h1 x.aA.c [ι x.aA.aA,ι x.aA.aD,e]:=by simp only[fG.c,fH,Rd];exact⟨_,_,rfl,rfl,_,_,rfl,rfl,e,_,rfl,a7,rfl⟩
  simp only[go_sem,k5,k7,B1];refine fK ⟨us.1,us.2 _ h1 x.aA _ ((i+1:Nat):Int) 1 rl ok⟩ ?_;rintro r h2 ⟨ow,-,X2⟩;have W:fq fB H h2:=X1.tr X2;have a2:=a.up W;have u:=a2.aA;simp only[gz.aA]at u;have B2:=W.aA hB;simp only[fP.aH]at B2;have sr:=ow.aA;obtain⟨n1,j1,r1,g1,e1,-,e3,e4⟩:=DM a2.aN (i:=i) ω;have el:=(WR.1 e4).1;have fin:∀Lw:gx,lk 0 Lw=.aA nb 9 0 0->lk 5 Lw=.aA b 10 0 0->lk 7 Lw=ι ((i+1+1:Nat):Int)->∃m'<v.aA.length-i,I m' Lw h2:=λLw q0 q5 q7=>⟨_,ω,(hI _ _ _).2 ⟨i+1,⟨q0,q5,q7⟩,W,ω,rfl⟩⟩;by_cases ct:v.aE[i]<x.aC
  ·have Z:=O i _ ω (WU ci) _ (WU ω) ct;rw[show ((i+1:Nat):Int)=(i:Int)+1 by omega,Z]at ow;have rr:Rd (λ_=>True) h2 (gZ [v.aA[i]]) r:=fA.rd _ (λ_ _=>Xb) _ ow;have a5:iJ r=some (ι (1:Int)):=by have:=rr.aC;simpa [gZ] using this
   obtain⟨p,cs,q1,q2,q3⟩:=Rd.aD rr .i64 (i:=(0:Int)) (d:=(v.aA[i]).c) ω rfl;have a6:=q3;have U:v.aA[i].aD.length<=2^40:=by
    refine ok.2.2.2 _ (?_:v.aA[i]∈x.aA.es);have:v.aA[i]∈x.aA.aH ((i:Int)+1) 1:=by rw[Z];simp
    unfold fG.aH at this;split at this;·simp at this
    ·exact Xw (XQ this)
   simp only[gw.c,fH,Rd]at q3;obtain⟨_,_,rfl,rfl,_,_,rfl,rfl,dd,_,rfl,qd,rfl⟩:=q3;have LD:iK h2 true 3 p=some (.aF [ι v.aA[i].aA,ι v.aA[i].aC,dd]):=by rw[jN q2];rfl
   obtain⟨nd,jd,drow,dg,d2,g1,g2,g3,g4,g5⟩:=a2.aW ci;have jdl:=(WR.1 g3).1;have q4:fH (λ_=>True) h2 (v.aA[i]).c [ι v.aA[i].aA,ι v.aA[i].aC,d2]:=by simp only[gw.c,fH,Rd];exact⟨_,_,rfl,rfl,_,_,rfl,rfl,d2,_,rfl,Rd.aE (λ_ _=>Xb) (λ_ _ _ y=>y) _ _ g4,rfl⟩
   simp only[go_sem,k0,k5,k7,u,B2,e1,e3,e4,a3,WZ ct,a5,q1,LD,g1,g2,g3];have GD:iK h2 true 3 (.aA nd 3 jd 0)=some (.aF [ι v.aA[i].aA,ι v.aA[i].aC,d2]):=by simp only[go_sem,g2,g3]
   refine fK ⟨ue.1,ue.2 _ h2 _ _ _ _ a6 q4 U⟩ ?_;rintro _ h9 ⟨rfl,e9⟩;rw[e9];clear e9 h9;simp only[go_sem,k7,u,B2,e3,e4,LD,GD,a4];exact fin _ (by simp[fE,k0]) (by simp[fE,k5]) (by simp[fE])
  ·simp only[go_sem,k0,k5,k7,u,B2,e1,e3,e4,a3,WV ct,a4];exact fin _ (by simp[fE,k0]) (by simp[fE,k5]) (by simp[fE])
 ·simp at ci;simp only[go_sem];exact hK _ _ X1
theorem Qp (hf:Is P f (BE s g))(us:oT P s)(ue:uj P g):Au P f:=by
 refine⟨hf.2,λΛ h nb w v who x cs a ai hx=>gy hf ?_⟩;obtain⟨e,o,n,l,d,rfl,he,ho,hn,hl,hd⟩:=m7 hx;have se:=he.aA;have so:=ho.aA;have sn:=hn.aA;have sl:=hl.aA;have sd:=hd.aA;obtain⟨H,hH⟩:∃H,H=h++[some (fC.aA 10 [x.aH e o n l d] false)]:=⟨_,rfl⟩;have X1:fq fB h H:=by rw[hH];exact fq.b1 _
 have B1:H[h.length]?=ar 10 [x.aH e o n l d]:=by rw[hH];exact h_ _ _
 have a1:=a.up X1;have s1:gK Λ h Λ H:=gK.up X1;have z0:Λ h.length=0:=a.aE (WX _);have hl1:H.length=h.length+1:=by rw[hH];simp
 simp only[fP.aH]at hH;simp only[BE,fP.aH,go_sem,se,so,sn,sl,sd];rw[<-hH];clear hH;refine Qn a1 (who:=who) (x:=x) (by simp[fE,iw]) (by simp[fE,iw]) (by simp[fE]) (by simp[fE]) B1 ai (λLv hm k0 k1 k5=>?_) (λLv hm=>?_);·have E:=a1.aA;simp only[gz.aA,fP.aH]at E B1;have R1:∀y,(H++[y])[nb]?=_:=λy=>(fq.b1 y).aA E;have Z:∀y,(H++[y])[h.length]?=_:=λy=>(fq.b1 y).aA B1;have nbl:=(WR.1 E).1;have N1:∀sz i o,ij H.length 1 (.aA nb sz i o)=true:=λsz i o=>iN ω;have N2:∀sz i o,ij H.length 1 (.aA h.length sz i o)=true:=λsz i o=>iN ω;have ae:=mH H 1 [[ι x.aC]] false (some 1) (len:=1) rfl;have X2:fq fB H (H++[some (fC.aA 1 [[ι x.aC]] false)]):=fq.b1 _;obtain⟨x',h3,e1,sx,n3,a2,Λ2,t1,t2⟩:=a1.bC X2 x.aC (by have:=ai.aA.2;omega);rw[<-iR ae]at e1;simp only[gz.aA]at n3 t1 t2;obtain⟨H3,I⟩:∃H3,H3=h3.set nb (some (fC.aA 9 [[w.lv,w.hv,w.av,w.pv,w.dv,w.tv,x',w.qv,.aE false]] false)):=⟨_,rfl⟩;rw[<-I]at t1 t2;simp only[go_sem,kj,k0,k5,R1,Z,N1,N2,e1,sx,gV sx,n3,<-I];have u:=t2.aA;simp only[gz.aA]at u;clear I e1 ae n3 a2 R1 Z N1 N2;have ae:=mH H3 1 [[ι who]] false (some 1) (len:=1) rfl;have X4:fq fB H3 (H3++[some (fC.aA 1 [[ι who]] false)]):=fq.b1 _;have R4:(H3++[some (fC.aA 1 [[ι who]] false)])[nb]?=_:=X4.aA u;obtain⟨x4,h4,e4,O,n4,nl4,Λ4,u1,u2⟩:=t2.bB X4 who (by have:=ai.aA;show v.aH.length<=_;omega);rw[<-iR ae]at e4;simp only[gz.aA]at n4 u1 u2;obtain⟨H4,W⟩:∃H4,H4=h4.set nb (some (fC.aA 9 [[w.lv,w.hv,w.av,w.pv,w.dv,w.tv,x',x4,.aE false]] false)):=⟨_,rfl⟩;rw[<-W]at u1 u2;simp only[go_sem,k1,k5,u,e4,O,gV O,n4,<-W];have s4:=(s1.aA t1).aA u1;have U:=t1.aA u1;have B4:=(U.z h.length ω z0).trans B1;have z4:=(U.aC h.length ω).trans z0;have a3:=s4.rd he;have ew:IntKind.i64.wrap (x.aA.aA+1)=x.aA.aA+1:=gF (by have:=ai.ok;simp only[kh]at this;omega);simp only[go_sem,B4,ew];refine Qo (x:=x) (e:=e) (o:=o) (n:=n) (l:=l) (d:=d) us ue u2 (by simp[fE,k0]) (by simp[fE,k5]) (by simp[fE]) B4 z4 a3 ai.ok ai.aD ai.aC (λLw h5 X5=>?_);simp only[go_sem];refine⟨Λ4,{w with ev:=x',qv:=x4},s4.aA (gK.up X5),rfl,?_⟩;rw[WY hm,WY hm];exact u2.up X5
 ·simp only[go_sem];refine⟨Λ,w,s1,rfl,?_⟩;rw[WW hm,WW hm];exact a1
variable {P:Program}{g f s fs ft:FuncId}
theorem QU {row:List (List AV)}{j:Nat}{o p x y:AV} (h:row[j]?=some [o,p]):(row.modify j λc=>(c.set 0 x).set 1 y)=row.set j [x,y]:=by
 obtain⟨hj,e⟩:=WR.1 h;apply XT;intro i;rw[Zb,Yz];by_cases c:j=i;·subst c;rw[WW rfl,WW hj,WU hj,e];simp
 ·rw[WY c];cases row[i]?<;>simp[c]
theorem Vf {fa fh fp fr fl:FuncId}(ua:tR P fa){Λ:Nat->Nat}{H:fu}{nb b:Nat}{w:gz}{v:jC}{k:Nat}{ma ca aa fi rs:AV}{cl:List gE}{qe:fP}{L:gx}{K:AX->St->Prop}(a:gA Λ H nb w v)
  (k0:lk 0 L=.aA nb 9 0 0) (k1:lk 1 L=ι k) (k5:lk 5 L=.aA b 5 0 0) (k6:lk 6 L=ι (0:Int)) (hB:H[b]?=ar 5 [[ma,ca,aa,fi,rs]]) (hb:Λ b=0) (hc:Rd (Zs Λ H) H (oX cl) ca) (hl:cl.length<=2^40)
  (hk:k<v.aD.length) (ch:oj v.aD[k] cl qe)
  (hK:∀Lv Λ' h',lk 0 Lv=.aA nb 9 0 0->lk 1 Lv=ι k->lk 5 Lv=.aA b 5 0 0->gK Λ H Λ' h'->gA Λ' h' nb w {v with aD:=v.aD.set k qe}->K (.aD 0) ⟨Lv,[],h'⟩):vc P (.aD (BI fa fh fs fp fr fl)) ⟨L,[],H⟩ K:=by
 have blen:=(WR.1 hB).1;obtain⟨I,hI⟩:∃I:Nat->gx->fu->Prop,∀m Lv h',I m Lv h'↔∃(j:Nat)(Λ':Nat->Nat)(q:fP),(lk 0 Lv=.aA nb 9 0 0/\lk 1 Lv=ι k/\lk 5 Lv=.aA b 5 0 0/\lk 6 Lv=ι (j:Int))/\gK Λ H Λ' h'/\oj q (cl.drop j) qe /\
   gA Λ' h' nb w {v with aD:=v.aD.set k q}/\j<=cl.length/\m=cl.length-j:=⟨_,λ_ _ _=>YD⟩
 refine iP I cl.length ((hI _ _ _).2 ⟨0,Λ,v.aD[k],⟨k0,k1,k5,by simpa using k6⟩,gK.aF _ _,ch,?_,ω,ω⟩) ?_;·rw[YP];exact a
 intro m Lv h1 hh;obtain⟨j,Λ1,q,⟨k0,k1,k5,k6⟩,s1,ch,a1,hj,rfl⟩:=(hI _ _ _).1 hh;clear hh;have B1:=(s1.z b blen hb).trans hB;have hc1:=s1.rd hc;have row1:=a1.aA;simp only[gz.aA]at row1;have lc:iJ ca=some (ι cl.length):=by have:=hc.aC;simpa [oX] using this
 simp only[BI,go_sem,k5,k6,B1,lc];refine iQ (λcj=>?_) (λcj=>?_)
 ·simp at cj;have cj:j<cl.length:=ω;rw[YL cj]at ch;obtain⟨ch1,⟨ch2,ch3⟩,ch4,ch5⟩:=ch;have ea:=LS ch1 ch4;obtain⟨ya,yb,hy,hya,hyb⟩:∃ya yb,(ji (q.aI cl[j]).1).v=[ya,yb]/\ya.aH=true/\yb.aH=true:=⟨_,_,rfl,mI _,mI _⟩;have XB:fq fB h1 (h1++[some (fC.aA 2 [[ya,yb]] false)]):=fq.b1 _;have aB:=a1.up XB;obtain⟨n0,i0,row,g,x,y,e1,e2,e3,e4,e5,e6,e7,-⟩:=a1.aQ (k:=k) (by simpa using hk);simp only[Yr]at e4;obtain⟨n1,i1,row',g',x',y',f1,f2,-,-,-,-,-,f⟩:=aB.aQ (k:=k) (by simpa using hk);rw[e1]at f1;injection f1 with f1;injection f1 with f1 _ f1';subst f1 f1';rw[XB.aA e2]at f2;injection f2 with f2;injection f2 with f2;injection f2 with _ f2 f2';subst f2 f2';obtain⟨pc,cc,j1,j2,j3⟩:=Rd.aD hc1 .i64 (i:=(j:Int)) (d:=(cl[j]).c) ω (by rw[show ((j:Int)).toNat=j by omega,XR,WU cj];rfl);obtain⟨ce,cO,cN,cL,cS,rfl,-⟩:=Ez j3;have ew:IntKind.i64.wrap ((j:Int)+1)=((j+1:Nat):Int):=by rw[gF ω];omega
  have nbl:=(WR.1 row1).1;have bl1:=(WR.1 B1).1;have il:=(WR.1 e3).1;have R1:∀w,(h1++[w])[nb]?=_:=λw=>(fq.b1 w).aA row1;have BB1:∀w,(h1++[w])[b]?=_:=λw=>(fq.b1 w).aA B1;have X1:∀w,(h1++[w])[n0]?=_:=λw=>(fq.b1 w).aA e2;have LD:∀w,iK (h1++[w]) true 17 pc=some (.aF _):=λw=>jN (tJ j2 (fq.b1 w)) true 17;have N0:∀sz i o,ij h1.length 1 (.aA nb sz i o)=true:=λsz i o=>iN ω;have N1:∀sz i o,ij h1.length 1 (.aA b sz i o)=true:=λsz i o=>iN ω;have N2:∀sz i o,ij h1.length 1 (.aA n0 sz i o)=true:=λsz i o=>iN ω;simp only[go_sem,kj,k0,k1,k5,k6,R1,BB1,X1,e1,e3,j1,LD,N0,N1,N2];have ra:fH (λn=>True) (h1++[none]) (ji q).c [x,y]:=fH.aA (F:=Zs Λ1 h1) (h:=h1) (λ_ _=>Xb) ((fq.b1 none).aE _) _ _ e4;have rc:=fH.aA (F':=λn=>True) (λ_ _=>Xb) ((fq.b1 none).aE _) _ _ j3;have ap:=ua.aA ra rc ch3 (WX _) ch2;rw[ea]at ap;refine⟨IS j2 _,fK ⟨ua.1,ap⟩ ?_⟩;rintro _ h7 ⟨rfl,e7'⟩;rw[e7'];clear e7' h7;have ry:fH fB h1 (ji (q.aI cl[j]).1).c [ya,yb]:=by rw[<-hy];exact tK _ _ _
  have B61:∀w:Option fC,(h1++[w])[h1.length]?=some w:=λw=>by simp
  have s61:∀w y:Option fC,(h1++[w]).set h1.length y=h1++[y]:=λw y=>by simp
  have n61:∀w:Option fC,h1.length<(h1++[w]).length:=λw=>by simp
  rw[hy];obtain⟨Λ3,t1,t2⟩:=f (q.aI cl[j]).1 ya yb (fH.aA (λ_ y=>y) (λ_ y=>y.elim) _ _ ry);simp only[go_sem,kj,k0,k1,k6,R1,BB1,X1,e1,e3,il,B61,LD,s61,hya,hyb,ew];rw[QU e3];refine⟨_,ω,(hI _ _ _).2 ⟨j+1,Λ3,_,⟨by simp[fE,k0],by simp[fE,k1],by simp[fE,k5],by simp[fE]⟩,(s1.aA (gK.up XB)).aA t1,ch5,?_,ω,rfl⟩⟩;simp only[Yi]at t2;exact t2
 ·simp at cj;have:j=cl.length:=ω;subst this;rw[ZB]at ch;have ch:qe=q:=ch;subst ch;simp only[go_sem];exact hK _ _ _ (by simp[fE,k0]) (by simp[fE,k1]) (by simp[fE,k5]) s1 a1
structure vU (v:jC)(k:Nat)(o:na)(y:fy)(D':List gw)(n:Nat):Prop where
 k5:k<5/\v.aD.length=5
 aH:v.l[k]?=some y
 aC:∀h:k<v.aD.length,oj v.aD[k] o.aC y.aA
 aE:y.aA.aJ 130000
 aA:Fb {v with aD:=v.aD.set k y.aA} k n o.aF D' o.aE o.aD
 aG:(v.aG.length+o.aA.length)*200<=2^46
 aD:o.aC.length<=2^40
 aF:y.aE=2->As {v with aA:=D',aE:=v.aE++List.replicate (D'.length-v.aA.length) y.aA.aC} (k+1) y.aA
def jC.aI (v:jC)(k:Nat)(o:na)(y:fy)(D':List gw)(n:Nat):jC:=
 {v with aD:=v.aD.set k y.aA,aC:=v.aC.set k ((n+o.aF.length:Nat):Int),aG:=v.aG++o.aA,aA:=D',aE:=v.aE++List.replicate (D'.length-v.aA.length) y.aA.aC,aF:=if y.aE=2/\y.aA.aC∉v.aF then v.aF++[y.aA.aC] else v.aF,aH:=if y.aE=2/\y.aA.aC∉v.aF then v.aH++[(k:Int)+1] else v.aH}
def lW (P:Program)(f:FuncId):Prop:=fZ P f=true/\∀(Λ:Nat->Nat)(h:fu)(nb:Nat)(w:gz)(v:jC)(k:Nat)(o:na)(y:fy)(D':List gw)(n:Nat)(ma ca aa:AV),gA Λ h nb w v->vU v k o y D' n->
 Rd (Zs Λ h) h (uJ o.aA) ma->Rd (Zs Λ h) h (oX o.aC) ca->Rd (Zs Λ h) h (gZ o.aF) aa->
 fO P f [.aA nb 9 0 0,.aD .i64 k,.aF [ma,ca,aa,.aD .i64 o.aE,.aE o.aD]] h λ_ h'=>∃Λ' w',gK Λ h Λ' h'/\w'.rs=w.rs/\gA Λ' h' nb w' (v.aI k o y D' n)
theorem O9 {F:Nat->Prop}{h:fu}{x:fP}{e o n l s:AV}(hh:fH F h x.c (x.aH e o n l s)):e.aH=true/\o.aH=true/\n.aH=true/\l.aH=true/\s.aH=true:=by obtain⟨e',o',n',l',s',eq,h1,h2,h3,h4,h5⟩:=m7 hh;simp only[fP.aH,Yv,and_true,true_and]at eq;obtain⟨rfl,rfl,rfl,rfl,rfl⟩:=eq;exact⟨h1.aA,h2.aA,h3.aA,h4.aA,h5.aA⟩
theorem Vg {fa fh fp fr fl:FuncId}(hf:Is P f (BH fa fh fs fp fr fl))(ua:tR P fa)(uh:pN P fh)(us:AN P fs)(up:z7 P fp)(ur:kK P fr fy.aE)(ul:Au P fl):lW P f:=by
 refine⟨hf.2,λΛ h nb w v k o y D' n ma ca aa a ti rm rc ra=>gy hf ?_⟩;obtain⟨⟨k5,kH⟩,self,chain,fit,app,post,few,lead⟩:=ti;have sm:=rm.aA;have sc:=rc.aA;have sa:=ra.aA;obtain⟨H,hH⟩:∃H,H=h++[some (fC.aA 5 [[ma,ca,aa,ι o.aE,.aE o.aD]] false)]:=⟨_,rfl⟩;have X1:fq fB h H:=by rw[hH];exact fq.b1 _
 have B1:H[h.length]?=ar 5 [[ma,ca,aa,ι o.aE,.aE o.aD]]:=by rw[hH];exact h_ _ _
 have a1:=a.up X1;have s1:gK Λ h Λ H:=gK.up X1;have z0:Λ h.length=0:=a.aE (WX _);have hl1:H.length=h.length+1:=by rw[hH];simp
 simp only[BH,go_sem,sm,sc,sa];rw[<-hH];clear hH;refine Vf ua a1 (qe:=y.aA) (by simp[fE,iw]) (by simp[fE,iw]) (by simp[fE]) (by simp[fE]) B1 z0 (s1.rd rc) few ω (chain ω) (λLv Λ2 H2 k0 k1 k5' s2 a2=>?_);have row2:=a2.aA;simp only[gz.aA]at row2;have s12:=s1.aA s2;have B2:=(s2.z h.length ω z0).trans B1;have z2:=(s2.aC h.length ω).trans z0;obtain⟨hkl,self'⟩:=WR.1 self;obtain⟨n0,j0,lrow,lg,r,e1,e2,e3,e4,e5,e6,e7,-,-⟩:=a2.aF (k:=k) hkl;simp only[self']at e5;have el:=(WR.1 e3).1;simp only[go_sem,k0,k1,row2,e1,e2,e3];obtain⟨⟨gg,ff,rAt⟩,-⟩:=e5;refine fK ⟨uh.1,uh.2 H2 r y ⟨_,_,rAt.aA⟩ (fit.aF ω) (fit.aC.le ω) (by have:=fit.aG;omega) ⟨by have:=fit.aE;omega,by have:=fit.aA;omega⟩⟩ ?_;rintro _ H3 ⟨hb,rfl,ob,X3⟩;obtain⟨he,ho,hn,hl,hs,rfl,-⟩:=m7 (F:=λ_=>True) (h:=H3) (fU.rd _ (λ_ _=>Xb) _ ob);have hd3:fH (λ_=>True) H3 y.aA.c (y.aA.aH he ho hn hl hs):=fU.rd _ (λ_ _=>Xb) _ ob;obtain⟨b1,b2,b3,b4,b5⟩:=O9 hd3;obtain⟨H4,hH4⟩:∃H4,H4=H3++[some (fC.aA 10 [y.aA.aH he ho hn hl hs] false)]:=⟨_,rfl⟩;have X4:fq fB H3 H4:=by rw[hH4];exact fq.b1 _
 have X24:fq fB H2 H4:=X3.tr X4;have C4:H4[H3.length]?=ar 10 [y.aA.aH he ho hn hl hs]:=by rw[hH4];exact h_ _ _
 have a4:=a2.up X24;have s4:=s12.aA (gK.up X24);have row4:=a4.aA;simp only[gz.aA]at row4;have B4:=X24.aA B2;have z4:=z2;have l3:=X3.1;have l4:H4.length=H3.length+1:=by rw[hH4];simp
 have c0:Λ2 H3.length=0:=a2.aE l3;have hd4:fH (Zs Λ2 H4) H4 y.aA.c (y.aA.aH he ho hn hl hs):=fH.up (fU.rd _ (λm hm=>⟨a2.aE hm.1,by have:=hm.2;omega⟩) _ (fU.lt _ _ ob)) X4;obtain⟨n1,j1,hrow,hg,hx,hy,i1,i2,i3,i4,i5,i6,i7,-⟩:=a4.aQ (k:=k) (by simp;omega);have il:=(WR.1 i3).1;simp only[Yr,jH.c,ji,fH]at i4;obtain⟨hx',_,f1,rh,hy',_,f2,-⟩:=i4;injection f1 with f1 f1';subst f1;obtain⟨p,cs,q1,q2,q3⟩:=Rd.aD rh .i64 (i:=(0:Int)) (d:=y.aA.c) ω rfl;have q3':=q3;obtain⟨he',ho',hn',hl',hs',rfl,-⟩:=m7 q3;have LD:iK H4 true 10 p=some (.aF (y.aA.aH he' ho' hn' hl' hs')):=by rw[jN q2];rfl
 simp only[fP.aH]at hH4 C4 LD;simp only[fP.aH,go_sem,b1,b2,b3,b4,b5,<-hH4,k0,k1,row4,i1,i2,i3,q1,LD,C4];clear hH4;refine fK ⟨us.1,us.2 _ _ H4 y.aA y.aA _ _ hd4 q3' (fit.aD ω)⟩ ?_;rintro _ h9 ⟨rfl,e9⟩;rw[e9];clear e9 h9;have ID:iK H4 true 10 p=some (.aF (y.aA.aH he' ho' hn' hl' hs')):=LD;simp only[go_sem,k0,k1,k5',row4,i2,i3,LD,C4,B4];refine fK ⟨up.1,up.2 Λ2 H4 nb w _ k n y.aA.aC ma ca aa o.aF D' o.aE o.aD a4 app (s4.rd ra) sm sc⟩ ?_;rintro _ H5 ⟨Λ5,w5,s5,wr5,a5⟩;have row5:=a5.aA;simp only[gz.aA]at row5;have hl4:=(WR.1 B4).1;have B5:=(s5.z h.length hl4 z4).trans B4;have C5:=(s5.z H3.length ω c0).trans C4;have rm5:=(s4.aA s5).rd rm;have hd5:=s5.aE hd4;obtain⟨ys,ae,rys⟩:=rm5.aH;obtain⟨x',h3,g1,sx,n3,nl3,Λ6,t1,t2⟩:=a5.aV (fq.aC _ H5) (ms:=o.aA) (ys:=ys) rys (by simpa using post) (bytes:=168) δ;rw[<-iR ae]at g1;simp only[gz.aA]at n3 t1 t2;obtain⟨H6,hH6⟩:∃H6,H6=h3.set nb (some (fC.aA 9 [[w5.lv,w5.hv,w5.av,x',w5.dv,w5.tv,w5.ev,w5.qv,.aE false]] false)):=⟨_,rfl⟩;rw[<-hH6]at t1 t2;simp only[go_sem,k0,k5',row5,B5,g1,sx,gV sx,n3,<-hH6];have row6:=t2.aA;simp only[gz.aA]at row6;have C6:=(t1.z H3.length (by have:=s5.aD;omega) ((s5.aC H3.length ω).trans c0)).trans C5;have hd6:=t1.aE hd5;obtain⟨n0',j0',lrow',lg',r',u1,u2,u3,u4,u5,u6,u7,-,-⟩:=t2.aF (k:=k) hkl;simp only[self']at u5;have ul':=(WR.1 u3).1;simp only[go_sem,k1,row6,u1,u2,u3];obtain⟨⟨gg',ff',rAt'⟩,-⟩:=u5;refine fK ⟨ur.1,ur.2 H6 r' y ⟨_,_,rAt'.aA⟩⟩ ?_;rintro _ h9 ⟨rfl,e9⟩;rw[e9];clear e9 h9;have s6:=(s4.aA s5).aA t1;by_cases c:y.aE=2
 ·have ew:IntKind.i64.wrap ((k:Int)+1)=(k:Int)+1:=gF ω;simp only[go_sem,k0,k1,WZ c,C6,ew];have l:=lead c;refine fK ⟨ul.1,ul.2 Λ6 H6 nb _ _ ((k:Int)+1) y.aA _ t2 ⟨l.aE,l.aD,l.ok,l.aA,l.aC⟩ hd6⟩ ?_;rintro _ H7 ⟨Λ7,w7,s7,wr7,a7⟩;simp only[go_sem];refine⟨Λ7,w7,s6.aA s7,wr7.trans wr5,?_⟩;have e:v.aI k o y D' n={v with aD:=v.aD.set k y.aA,aC:=v.aC.set k ((n+o.aF.length:Nat):Int),aG:=v.aG++o.aA,aA:=D',aE:=v.aE++List.replicate (D'.length-v.aA.length) y.aA.aC,aF:=if y.aA.aC∈v.aF then v.aF else v.aF++[y.aA.aC],aH:=if y.aA.aC∈v.aF then v.aH else v.aH++[(k:Int)+1]}:=by
   unfold jC.aI;by_cases c2:y.aA.aC∈v.aF;·rw[WY (λz=>z.2 c2),WY (λz=>z.2 c2),WW c2,WW c2]
   ·rw[WW ⟨c,c2⟩,WW ⟨c,c2⟩,WY c2,WY c2]
  rw[e];exact a7
 ·simp only[go_sem,WV c];refine⟨Λ6,{w5 with pv:=x'},s6,wr5,?_⟩;have e:v.aI k o y D' n={v with aD:=v.aD.set k y.aA,aC:=v.aC.set k ((n+o.aF.length:Nat):Int),aG:=v.aG++o.aA,aA:=D',aE:=v.aE++List.replicate (D'.length-v.aA.length) y.aA.aC}:=by unfold jC.aI;rw[WY (λz=>c z.1),WY (λz=>c z.1)]
  rw[e];exact t2
variable {P:Program}{g f s fs ft:FuncId}
def iM (x:fM):jC:=⟨x.l,x.l.map fy.aA,x.l.map fy.aI,x.aA,x.aC,x.aT,x.aJ,x.aQ⟩
section
variable {c0:fI} {B K B' K':Nat} {x:fM} {k:Nat} {y:RX}
theorem vU.of (ok:iC c0 B K x)(u:iC c0 B' K' (x.aD k y))(hk:k<x.l.length) (ti:mT x x.l[k].aA x.l[k].aI y) (hK:K'<=130000) (few:y.o.aC.length<=2^40) (po:(x.aA.length+y.o.aA.length)*200<=2^46) (tl:x.aJ.length<=2^29) (dl:(g_ x.aC y.r).length<=2^29):
  ∃n,vU {iM x with l:=x.l.set k y.r} k y.o y.r (g_ x.aC y.r) n/\({iM x with l:=x.l.set k y.r}:jC).aI k y.o y.r (g_ x.aC y.r) n=iM (x.aD k y):=by
 have l5:=ok.aE;have fit:y.r.aG K':=by have:=u.aC k (by show k<(x.l.set k y.r).length;simpa using hk);have e:(x.aD k y).l[k]'(by show k<(x.l.set k y.r).length;simpa using hk)=y.r:=Yr ..;rw[e]at this;exact this
 have mem:=u.aD k (by show k<(x.l.set k y.r).length;simpa using hk);have e:(x.aD k y).l[k]'(by show k<(x.l.set k y.r).length;simpa using hk)=y.r:=Yr ..;rw[e]at mem;obtain⟨n,a1,a2,a3,a4,a5,a6⟩:=ti.aA;have fk:y.r.aA.aJ 130000:=fit.aS hK;refine⟨n,⟨⟨ω,by simp[iM,l5]⟩,?_,λh=>?_,fk,⟨⟨ω,by simp[iM,l5],by simp[iM,l5]⟩,λh1 h2=>?_,a2,a4,ti.aF,a5,⟨a6,dl⟩,λe he=>?_,ok.aM⟩,po,few,λrole=>?_⟩,?_⟩;·show (x.l.set k y.r)[k]?=some y.r;rw[W0 hk]
 ·have e:(x.l.map fy.aA)[k]'h=x.l[k].aA:=ZC ..;show oj ((x.l.map fy.aA)[k]'h) _ _;rw[e];exact ti.aC
 ·rw[a1];have e1:((x.l.map fy.aA).set k y.r.aA)[k]'h1=y.r.aA:=Yr ..;have e2:(x.l.map fy.aI)[k]'h2=x.l[k].aI:=ZC ..;show (if y.o.aD=true then y.r.aA.aA.aA else x.l[k].aI)=if y.o.aD=true then (((x.l.map fy.aA).set k y.r.aA)[k]'h1).aA.aA else (x.l.map fy.aI)[k]'h2
  rw[e1,e2]
 ·have:=fit.aI e (ti.aD e he);have:=this.1.2;omega
 ·obtain⟨p1,p2⟩:=ti.aE role;have thL:=ok.aM;refine⟨λi t j h1 h2 h3=>(p1 i t j h1 h2 h3).trans mem.1,p2,fk.aF ω,⟨ok.aP,tl⟩,?_,dl⟩;show (x.aT++List.replicate ((g_ x.aC y.r).length-x.aC.length) y.r.aA.aC).length=(g_ x.aC y.r).length;simp only[WT,YE];omega
 ·have E:(k:Int)+1=y.r.id:=mem.1.symm;simp only[jC.aI,iM,fM.aD,a3,E,Zk];congr 1<;>(split<;>simp_all)
theorem gA.aU {Λ:Nat->Nat}{h h':fu}{nb:Nat}{w:gz}{v:jC}{k:Nat}{y:RX}{res:AV}(a:gA Λ h nb w v)(hk:k<w.rs.length)(u:k<v.l.length) (b:lA (gQ k Λ) h w.rs[k] y res h'):
  ∃Λ' ma ca aa,res=.aF [ma,ca,aa,ι y.o.aE,.aE y.o.aD]/\gK Λ h Λ' h'/\gA Λ' h' nb w {v with l:=v.l.set k y.r}/\Rd (Zs Λ' h') h' (uJ y.o.aA) ma/\Rd (Zs Λ' h') h' (oX y.o.aC) ca/\Rd (Zs Λ' h') h' (gZ y.o.aF) aa:=by
 obtain⟨L',m1,e,⟨ma,ca,aa,rfl,oa,ob,oc,-,-⟩,hx⟩:=b.aA (a.aG k hk u);obtain⟨n1,n2,n3⟩:=a.bE hk u m1 e hx;have z:∀j,j=3\/j=4\/j=5->∀m,(h.length<=m/\m<h'.length)/\L' m=j->Zs (nC k Λ h.length (mZ L')) h' m:=by intro j hj m hm;refine⟨n3 m hm.1.1 ?_,hm.1.2⟩;unfold mZ;rw[WY ω]
 have pz:∀m,gQ k Λ m=0->¬wA (gQ k Λ m):=λm e=>by rw[e];simp[wA]
 refine⟨_,ma,ca,aa,rfl,⟨hx.1,n2,λm hm c=>hx.2 m hm (pz m (by unfold gQ;rw[c];split<;>omega)),λm hm c=>hx.2 m hm (pz m (by unfold gQ;rw[WY (by have:=a.aD;omega)]))⟩,n1,fA.rd _ (z 3 ω) _ oa,fA.rd _ (z 4 ω) _ ob,fA.rd _ (z 5 ω) _ oc⟩
theorem lW.aD (ut:lW P ft){Λ:Nat->Nat}{h h':fu}{nb:Nat}{w:gz}{res:AV}{KK:AV->fu->Prop}(a:gA Λ h nb w (iM x))(ok:iC c0 B K x)(e:iC c0 B' K' (x.aD k y))(hk:k<x.l.length) (ti:mT x x.l[k].aA x.l[k].aI y) (hK:K'<=130000) (few:y.o.aC.length<=2^40)
  (po:(x.aA.length+y.o.aA.length)*200<=2^46) (tl:x.aJ.length<=2^29) (dl:(g_ x.aC y.r).length<=2^29) (hr:k<w.rs.length) (b:lA (gQ k Λ) h w.rs[k] y res h')
  (u:∀v Λ2 h2 w2,gK Λ h Λ2 h2->w2.rs=w.rs->gA Λ2 h2 nb w2 (iM (x.aD k y))->KK v h2):m9 P ft [.aA nb 9 0 0,ι k,res] h' KK:=by
 obtain⟨Λ1,ma,ca,aa,rfl,s1,a1,r1,r2,r3⟩:=a.aU hr hk b;obtain⟨n,t1,t2⟩:=vU.of ok e hk ti hK few po tl dl;refine fK ⟨ut.1,ut.2 Λ1 h' nb w _ k y.o y.r _ n ma ca aa a1 t1 r1 r2 r3⟩ ?_;rintro v h2 ⟨Λ2,w2,s2,e2,a2⟩;exact u v Λ2 h2 w2 (s1.aA s2) e2 (by rw[<-t2];exact a2)
structure kq (N:Nat)(x:fM):Prop where
 aA:x.aA.length<=21*N
 aD:x.aJ.length<=N
 aC:x.aC.length<=130000*N
theorem kq.aE {N N':Nat}(h:kq N x)(hn:N<=N'):kq N' x:=⟨by have:=h.aA;omega,by have:=h.aD;omega,by have:=h.aC;omega⟩
theorem Dy {D:Es}{r:fy}{K:Nat}(h:r.aA.aA.es.length<=K):(g_ D r).length<=D.length+K:=by
 unfold g_;split;·simp only[W7,gj,gU,WT];omega
 ·omega
theorem kq.aF {N:Nat}(h:kq N x)(f:y.r.aG K')(hK:K'<=130000)(sa:y.aD 21):kq (N+1) (x.aD k y):=by
 refine⟨?_,?_,?_⟩;·show (x.aA++y.o.aA).length<=_;have:=h.aA;have sa:y.o.aA.length<=21:=sa;simp only[WT];omega
 ·show (if _ then x.aJ++[_] else x.aJ).length<=_;have:=h.aD;split;·simp only[WT,XI];omega
  ·omega
 ·have:=Dy (D:=x.aC) f.aF;have:=h.aC;show (g_ x.aC y.r).length<=_;omega
theorem iC.aJ (u:iC c0 B' K' (x.aD k y))(hk:k<x.l.length):y.r.aG K':=by have:=u.aC k (by show k<(x.l.set k y.r).length;simpa using hk);have e:(x.aD k y).l[k]'(by show k<(x.l.set k y.r).length;simpa using hk)=y.r:=Yr ..;rw[e]at this;exact this
theorem lW.aC (ut:lW P ft){Λ:Nat->Nat}{h h':fu}{nb N:Nat}{w:gz}{res:AV}{KK:AV->fu->Prop}(a:gA Λ h nb w (iM x))(ok:iC c0 B K x)(u:iC c0 B' K' (x.aD k y))(hk:k<x.l.length) (ti:mT x x.l[k].aA x.l[k].aI y) (hK:K'<=130000) (bb:kq N x) (hN:N<4000\/(N<2^28/\x.aC.length<=130000)) (te:y.aE 2) (sa:y.aD 21)
  (hr:k<w.rs.length) (b:lA (gQ k Λ) h w.rs[k] y res h')
  (E:∀v Λ2 h2 w2,gK Λ h Λ2 h2->w2.rs=w.rs->gA Λ2 h2 nb w2 (iM (x.aD k y))->kq (N+1) (x.aD k y)->KK v h2):m9 P ft [.aA nb 9 0 0,ι k,res] h' KK:=by
 have f:=u.aJ hk;have b1:=bb.aA;have b2:=bb.aD;have b3:=bb.aC;have te':y.o.aC.length<=2:=te;have sa':y.o.aA.length<=21:=sa;have dl:=Dy (D:=x.aC) f.aF;exact ut.aD a ok u hk ti hK ω ω ω ω hr b (λv Λ2 h2 w2 s e a2=>E v Λ2 h2 w2 s e a2 (bb.aF f hK sa))
end
variable {P:Program}{g f s fs ft:FuncId}
section
variable {F:Nat->Prop} {h:fu} {sz:Nat} {v:AV} {es:List (List AV)}
theorem gR.aG (c:gR F h sz v es){i:Nat}(hi:i<=es.length):∃a,iX sz v none (some (i:Int)) none=some a/\jD h sz a=some (es.take i)/\a.aH=true:=by
 rcases c with⟨rfl,rfl⟩ | ⟨n,off,cap,row,g,rfl,-,h3,h4,h5,-,-,h8⟩;·simp at hi;subst hi;exact⟨.aC,by simp[iX],rfl,rfl⟩
 ·have hc:(i:Int)<=((cap.getD es.length:Nat):Int):=by
   cases cap with
   | none=>simp;omega
   | some c=>have:=h5 c rfl;simp;omega
  refine⟨.aG n sz off i (jW none 0 cap),?_,?_,rfl⟩;·simp only[iX,Yo,XJ];rw[WW ⟨Xb,ω,ω,ω,ω,hc⟩];simp
  ·simp only[jD,h3];rw[WW ⟨Xb,Xb,ω⟩];rw[<-h8,XM,XW hi]
theorem gR.aH (c:gR F h sz v es){i:Nat}(hi:i<=es.length):∃a,iX sz v (some (i:Int)) none none=some a/\jD h sz a=some (es.drop i)/\a.aH=true:=by
 rcases c with⟨rfl,rfl⟩ | ⟨n,off,cap,row,g,rfl,-,h3,h4,h5,-,-,h8⟩;·simp at hi;subst hi;exact⟨.aC,by simp[iX],rfl,rfl⟩
 ·have hc:(es.length:Int)<=((cap.getD es.length:Nat):Int):=by
   cases cap with
   | none=>simp
   | some c=>have:=h5 c rfl;simp;omega
  have cond:True/\0<=(i:Int)/\(i:Int)<=(es.length:Int)/\((es.length:Int)<=(es.length:Int)\/cap.isSome=true)/\(es.length:Int)<=(es.length:Int)/\(es.length:Int)<=((cap.getD es.length:Nat):Int):=⟨Xb,ω,ω,.inl ω,ω,hc⟩;by_cases c0:i=0
  ·subst c0;refine⟨.aG n sz off es.length (jW none 0 cap),?_,?_,rfl⟩;·simp only[iX,Yo,XJ];rw[WW cond];simp
   ·simp only[jD,h3];rw[WW ⟨Xb,Xb,ω⟩,h8];simp
  ·by_cases c1:i<es.length
   ·refine⟨.aG n sz (off+i) (es.length-i) (jW none i cap),?_,?_,rfl⟩;·simp only[iX,Yo,XJ];rw[WW cond,WY ω,WW ω];simp
    ·simp only[jD,h3];rw[WW ⟨Xb,Xb,ω⟩];have e:es.drop i=((row.drop off).take es.length).drop i:=by rw[h8]
     rw[e,List.drop_take,List.drop_drop]
   ·refine⟨.aM 0 false sz [],?_,?_,rfl⟩;·simp only[iX,Yo,XJ];rw[WW cond,WY ω,WY ω]
    ·rw[Zf ω];simp[jD]
end
theorem gA.aY {Λ:Nat->Nat}{h h':fu}{nb:Nat}{w:gz}{v:jC}(a:gA Λ h nb w v){p:AV}{ms:List fF}{rows:List (List AV)}(hx:fq fB h h')(hp:gR (λm=>h.length<=m) h' 17 p rows)(hr:gB (Zs Λ h) h' (ms.map fF.c) rows):
  ∃Λ',gK Λ h Λ' (h'.set nb (some (.aA 9 [({w with pv:=p}:gz).aA] false)))/\gA Λ' (h'.set nb (some (.aA 9 [({w with pv:=p}:gz).aA] false))) nb {w with pv:=p} {v with aG:=ms}:=by
 have nbl:=(WR.1 a.aA).1;have hl:=hx.1;obtain⟨r1,s1⟩:=a.aS (h':=h'.set nb (some (.aA 9 [({w with pv:=p}:gz).aA] false))) (j:=105) ω (by simp;exact hl) (λm hm _ e=>(WS (λy=>e y.symm)).trans (hx.2 m hm (λy=>y)));refine⟨_,s1,r1.lt,r1.aC,W0 ω,r1.aD,r1.l ω,r1.aA,r1.aJ ω,r1.aI ω,⟨rows,hp.aA (λm hm hlt=>?_) (λm hm hlt=>WS (λy=>by have:h.length<=m:=hm;omega)),gB.aA s1.zs (λm hm y hy=>?_) _ _ hr⟩,r1.aE ω,r1.aH ω,r1.aG ω,r1.aF ω⟩;·have hm':h.length<=m:=hm;show ot _ _ _ _ m=105;unfold ot;rw[WY ω,WW (by simpa using hlt)]
 ·have:m≠nb:=λy=>by have:=hm.1;rw[y,a.aC]at this;omega
  exact (WS (λy=>this y.symm)).trans hy
def fM.aO (x:fM)(i:Nat):fM:={x with aA:=x.aA.take i++x.aA.drop (i+1)}
def fM.aL (x:fM)(i:Nat)(m:fF):fM:=if h:1<=m.to/\m.to<=5/\(m.to-1).toNat<x.l.length then (x.aO i).aD (m.to-1).toNat (x.l[(m.to-1).toNat].bA m) else x.aO i
def vH (P:Program)(f:FuncId):Prop:=fZ P f=true/\∀(Λ:Nat->Nat)(h:fu)(nb N:Nat)(w:gz)(x:fM)(c0:fI)(B K i:Nat)(hi:i<x.aA.length),gA Λ h nb w (iM x)->iC c0 B K x->kq N x->B<=2^30->K+200<130000->N<4000\/(N<2^28/\x.aC.length<=130000)->
 fO P f [.aA nb 9 0 0,.aD .i64 i] h λ_ h'=>∃Λ' w',gK Λ h Λ' h'/\w'.rs=w.rs/\gA Λ' h' nb w' (iM (x.aL i x.aA[i]))/\iC c0 (B+1) (K+200) (x.aL i x.aA[i])/\kq (N+1) (x.aL i x.aA[i])
theorem NM (hf:Is P f (BD fs ft))(us:AI P fs)(ut:lW P ft):vH P f:=by
 refine⟨hf.2,λΛ h nb N w x c0 B K i hi a ok bb hB hK hN=>gy hf ?_⟩;have row:=a.aA;simp only[gz.aA]at row;obtain⟨n0,j,prow,g,e,d,e1,e2,e3,he,hd,e6⟩:=a.aX (i:=i) hi;have jl:=(WR.1 e3).1;have se:=he.aA;have sd:=hd.aA;have bp:=bb.aA;have ip:(i:Int)<2^40:=by have:x.aA.length<=21*N:=bp;omega
 have ew:IntKind.i64.wrap ((i:Int)+1)=((i+1:Nat):Int):=by rw[gF ω];omega
 generalize hm:x.aA[i]=m at *;have E:(iM x).aG[i]'hi=m:=hm;rw[E]at e3 he hd;obtain⟨H,hH⟩:∃H,H=h++[some (fC.aA 17 [m.aF e d] false)]:=⟨_,rfl⟩;have X1:fq fB h H:=by rw[hH];exact fq.b1 _
 have B1:H[h.length]?=ar 17 [m.aF e d]:=by rw[hH];exact h_ _ _
 have a1:=a.up X1;have s1:gK Λ h Λ H:=gK.up X1;have a8:H.length=h.length+1:=by rw[hH];simp
 have z0:Λ h.length=0:=a.aE (WX _);simp only[fF.aF]at e3 hH B1;simp only[BD,go_sem,row,e1,e2,e3,se,sd];rw[<-hH];clear hH;have u:=X1.aA row;have R1:∀y,(H++[y])[nb]?=_:=λy=>(fq.b1 y).aA u;have nbl:=(WR.1 u).1;obtain⟨rows,p1,p2⟩:=a1.aH;have lrows:rows.length=x.aA.length:=by have:=mz p2;simpa [iM] using this
 obtain⟨H1,Z⟩:∃H1,H1=H++[some (fC.aA 17 [] false)]:=⟨_,rfl⟩;have X2:fq fB H H1:=by rw[Z];exact fq.b1 _
 have hl2:H1.length=H.length+1:=by rw[Z];simp
 have cz:gR (λm=>H.length<=m) H1 17 (.aG (h.length+1) 17 0 0 (some 0)) []:=.inr ⟨h.length+1,0,some 0,[],false,rfl,by show H.length<=_;omega,by rw[Z,<-a8];exact h_ _ _,ς,(λc hc=>by simp),(λhc=>by cases hc),(λc hc=>by cases hc;simp),rfl⟩;have a6:gR (λm=>Λ m=105) H1 17 w.pv rows:=p1.aA (λ_ y _=>y) (λm _ hlt=>X2.2 m hlt (λy=>y));obtain⟨v1,q1,q2,q3⟩:=a6.aG (i:=i) ω;obtain⟨v3,h3,g1,c3,x3⟩:=cz.aD (bytes:=168) (ys:=rows.take i) (fq.aC _ H1) (by simp only[Xi,W7];have:x.aA.length<=21*N:=bp;omega);rw[<-iR q2,Z]at g1;have X3:fq fB H h3:=X2.aJ x3 (λm hm E=>by have:H.length<=m:=E;omega);have p3:gR (λm=>Λ m=105) h3 17 w.pv rows:=p1.aA (λ_ y _=>y) (λm _ hlt=>X3.2 m hlt (λy=>y));obtain⟨v2,r1,r2,r3⟩:=p3.aH (i:=i+1) ω;obtain⟨v4,h4,g2,c4,x4⟩:=c3.aD (bytes:=168) (ys:=rows.drop (i+1)) (fq.aC _ h3) (by simp only[Yg,W7,Xk];have:x.aA.length<=21*N:=bp;omega);rw[<-iR r2]at g2;have X4:fq fB H h4:=X3.aJ x4 (λm hm E=>by have hm'':(H.length<=m/\m<H1.length)\/H1.length<=m:=E;omega);have O:=X4.aA u;have nl4:=(WR.1 O).1;have s4:=c4.aE;have nbh:nb<h.length:=(WR.1 row).1;have N1:∀sz i o,ij (h.length+1) 1 (.aA nb sz i o)=true:=λsz i o=>iN ω;have R3:=X3.aA u;have B4:=X4.aA B1;have nne:¬nb=h.length:=ω;obtain⟨Λ5,t1,t2⟩:=a1.aY (ms:=x.aA.take i++x.aA.drop (i+1)) (rows:=[]++rows.take i++rows.drop (i+1)) X4 (c4.aA (λm hm _=>by have E:((H.length<=m/\m<H1.length)\/H1.length<=m)/\m<h3.length\/h3.length<=m:=hm;show H.length<=m;have:=X3.1;omega) (λ_ _ _=>rfl)) (by rw[Yg,XU,YX,Zq];have a3:gB (Zs Λ H) h4 (x.aA.map fF.c) rows:=gB.aA (λ_ y=>y) (X4.aE _) _ _ p2;exact vR (AL a3 i) (AK a3 (i+1)));simp only[gz.aA]at t1 t2;obtain⟨H5,a2⟩:∃H5,H5=h4.set nb (some (fC.aA 9 [[w.lv,w.hv,w.av,v4,w.dv,w.tv,w.ev,w.qv,.aE false]] false)):=⟨_,rfl⟩;rw[<-a2]at t1 t2;have B5:=(t1.z h.length ω z0).trans B1;have t2:gA Λ5 H5 nb {w with pv:=v4} (iM (x.aO i)):=t2;have s5:=s1.aA t1;simp only[go_sem,kj,R1,q1,r1,ew,g1,g2,s4,gV s4,O,N1,R3,<-a2,B5];clear a2;have bl:kq N (x.aO i):=⟨by have:x.aA.length<=21*N:=bp;show (x.aA.take i++x.aA.drop (i+1)).length<=_;simp only[WT,W7,Xk];omega,bb.aD,bb.aC⟩;have U:∀y∈x.aA.take i++x.aA.drop (i+1),y∈x.aA:=λy hy=>by
  rcases Xe.1 hy with hy | hy;·exact XQ hy
  ·exact Xw hy
 have a4:iC c0 B K (x.aO i):=ok.aF U;have no:¬(1<=m.to/\m.to<=5)->∃Λ' w',gK Λ h Λ' H5/\w'.rs=w.rs/\gA Λ' H5 nb w' (iM (x.aL i m))/\iC c0 (B+1) (K+200) (x.aL i m)/\kq (N+1) (x.aL i m):=by
  intro c;have ec:x.aL i m=x.aO i:=by unfold fM.aL;rw[dif_neg (λz=>c ⟨z.1,z.2.1⟩)]
  rw[ec];exact⟨Λ5,{w with pv:=v4},s5,rfl,t2,a4.aA ω ω,bl.aE ω⟩
 by_cases c1:1<=m.to
 ·by_cases c2:m.to<=5
  ·obtain⟨k,hk⟩:∃k:Nat,m.to=k+1:=⟨(m.to-1).toNat,ω⟩;have l5:=ok.aE;have W:k<x.l.length:=ω;have ec:x.aL i m=(x.aO i).aD k (x.l[k].bA m):=by have ek:(m.to-1).toNat=k:=ω;unfold fM.aL;rw[dif_pos ⟨c1,c2,ω⟩];simp only[ek]
   have ab:IntKind.i64.wrap (m.to-1)=(k:Int):=by rw[gF ω];omega
   have I:=t2.aA;simp only[gz.aA]at I;obtain⟨n1,j1,lrow,lg,r,u1,u2,u3,u4,u5,u6,u7,-,-⟩:=t2.aF (k:=k) W;have ul:=(WR.1 u3).1;have a9:=s5.rd he;have aa:=s5.rd hd;simp only[go_sem,WZ c1,WZ c2,B5,ab,I,u1,u2,u3];have mp:m∈x.aA:=by rw[<-hm];exact Xq _
   have mf:=ok.aG hB mp;obtain⟨o1,o2⟩:=ok.aL hB hK W mp hk U;have f:=ok.aC k W;have ma:mw (gQ k Λ5) H5 m (m.aF e d):=⟨Zs Λ5 H5,D_ a9 aa,λn hn=>by unfold gQ;rw[hn.1];split<;>omega⟩;simp only[fF.aF]at ma;refine fK ⟨us.1,us.2 (gQ k Λ5) H5 r x.l[k] K m _ u5 f ω ma mf⟩ ?_;rintro v h6 ro;obtain⟨hr,er⟩:=WR.1 u4;have z5:Λ5 h.length=0:=(t1.aC h.length ω).trans z0;have ae:h6[h.length]?=H5[h.length]?:=by obtain⟨_,_,_,_,_,_,_,_,_,_,_,hx⟩:=id ro;refine hx.2 h.length (WR.1 B5).1 (λy=>y ?_);unfold gQ;rw[z5];split<;>omega
   have B6:=ae.trans B5;simp only[go_sem,B6];have ac:r=({w with pv:=v4}:gz).rs[k]:=er.symm;rw[ac]at ro;refine ut.aC t2 a4 o1 W o2 ω bl hN (RX.aE.aO _ _) (RX.aD.aO _ f.aH _) hr ro (λv7 Λ7 h7 w7 s7 a5 a7 b7=>?_);simp only[go_sem];refine⟨Λ7,w7,s5.aA s7,a5,?_⟩;rw[ec];exact⟨a7,o1,b7⟩
  ·simp only[go_sem,WZ c1,WV c2,B5];exact no (λz=>c2 z.2)
 ·simp only[go_sem,WV c1];exact no (λz=>c1 z.1)
end Glb
