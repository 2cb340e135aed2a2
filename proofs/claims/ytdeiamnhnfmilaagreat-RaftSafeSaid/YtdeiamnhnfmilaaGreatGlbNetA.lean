/-
  A library of its own.
-/
import Derived.Test.YtdeiamnhnfmilaaGreatGlbSafB
set_option linter.unusedSimpArgs false
set_option linter.unusedVariables false
set_option maxRecDepth 10000
set_option maxHeartbeats 8000000
namespace Glb
open Go
def gC (F:Nat->Prop)(h:eX)(sz:Nat)(v:AV)(es:List (List AV)):Prop:=
 (v=.aD/\es=[])\/∃n off cap row g,v=.aG n sz off es.length cap/\F n/\h[n]?=some (some (.aA sz row g))/\off+es.length<=row.length/\s9 cap es.length/\(cap=none->off=0)/\(∀c,cap=some c->off+c<=row.length)/\(row.drop off).take es.length=es
theorem vF (F:Nat->Prop)(h:eX)(sz:Nat):Rd F h (.sl sz []) .aD:=by simp only[Rd];exact⟨[],.inl ⟨rfl,rfl⟩,rfl⟩
theorem IS {P:Program}{v:AV}{a b rest:AC}{st:St}{K:AX->St->Prop}(Q:St->Prop)(h1:oZ P v a b st λx s=>x=.aA/\Q s)(h2:∀s,Q s->vc P rest s K):oZ P v a b st (tI P rest K):=by
 have key:∀(c:AC),vc P c st (λx s=>x=.aA/\Q s)->vc P c st (tI P rest K):=λc hc=>oY c (λx s ⟨e,q⟩=>by subst e;exact h2 s q) hc;unfold oZ at h1 ⊢;split at h1;·exact⟨λe=>key _ (h1.1 e),λe=>key _ (h1.2 e)⟩
 ·exact h1.elim
section
variable {F F':Nat->Prop} {h h':eX} {sz:Nat} {v:AV} {es:List (List AV)}
theorem gC.aD:gC F h sz .aD []:=.inl ⟨rfl,rfl⟩
theorem gC.aA (c:gC F h sz v es)(hF:∀m,F m->m<h.length->F' m) (hk:∀m,F m->m<h.length->h'[m]?=h[m]?):gC F' h' sz v es:=by
 rcases c with c | ⟨n,off,cap,row,g,h1,h2,h3,h4⟩;·exact .inl c
 ·have hl:=(UY.1 h3).1;exact .inr ⟨n,off,cap,row,g,h1,hF n h2 hl,(hk n h2 hl).trans h3,h4⟩
theorem gC.aF (c:gC F h sz v es):ik v=some (.aA .i64 es.length):=by rcases c with⟨rfl,rfl⟩ | ⟨n,off,cap,row,g,rfl,-⟩<;>rfl
theorem gC.aE (c:gC F h sz v es):v.aH=true:=by rcases c with⟨rfl,-⟩ | ⟨n,off,cap,row,g,rfl,-⟩<;>rfl
theorem gC.at (c:gC F h sz v es){i:Nat}(hi:i<es.length):∃n off row g,jg sz v (.aA .i64 i)=some (.aC n sz (off+i) 0)/\F n/\h[n]?=some (some (.aA sz row g))/\row[off+i]?=some es[i] /\
  ∀cs,gC F (h.set n (some (.aA sz (row.set (off+i) cs) g))) sz v (es.set i cs):=by
 rcases c with⟨rfl,rfl⟩ | ⟨n,off,cap,row,g,rfl,h2,h3,h4,h5,h6,h7,h8⟩;·simp at hi
 ·have hl:=(UY.1 h3).1;refine⟨n,off,row,g,?_,h2,h3,?_,λcs=>.inr ⟨n,off,cap,_,g,by rw[U9],h2,U5 hl,by rw[U9,U9];exact h4,by rw[U9];exact h5,h6,by rw[U9];exact h7,?_⟩⟩;·simp only[jg];rw[U4 ⟨Vd,by omega,by omega⟩];simp
  ·have:es[i]?=((row.drop off).take es.length)[i]?:=by rw[h8]
   rw[VQ hi,Vt,U0 hi]at this;exact this.symm
  ·rw[U9];apply VM;intro j;simp only[VZ,Vt,Wl];by_cases c1:j<es.length
   ·rw[U4 c1];by_cases c2:i=j;·subst c2;rw[U4 rfl,U4 (by omega),U4 rfl,U4 hi]
    ·rw[U6 (by omega),U6 c2];have:es[j]?=((row.drop off).take es.length)[j]?:=by rw[h8]
     rw[VQ c1,Vt]at this;exact this.symm
   ·rw[U6 c1,U6 (by omega),VH (by omega)]
theorem gC.aC {h0:eX}{bytes:Nat}{ys:List (List AV)}(c:gC F h0 sz v es)(hx:eW eZ h0 h)(hb:(es.length+ys.length)*bytes<=2^46):
  ∃v' h',iu h sz bytes v ys=some (v',h')/\gC (λm=>(F m/\m<h.length)\/h.length<=m) h' sz v' (es++ys)/\eW F h h':=by
 have u:∀(hh:eX) (M:List (List AV)),h.length<=hh.length->gC (λm=>(F m/\m<h.length)\/h.length<=m) (gR hh sz M).2 sz (gR hh sz M).1 M:=by intro hh M hl;exact .inr ⟨hh.length,0,none,M,true,rfl,.inr hl,by simp[gR],by omega,(λc hc=>by cases hc),(λ_=>rfl),(λc hc=>by cases hc),by simp⟩
 rcases c with⟨rfl,rfl⟩ | ⟨n,off,cap,row,g,rfl,hn,I,W,a2,a1,Z,he⟩;·refine⟨(gR h sz ys).1,(gR h sz ys).2,?_,u h ys (U8 _),eW.aF _ _ _⟩;simp only[iu];rw[U4 (by simpa using hb)]
 ·have hnlt:=(UY.1 I).1;have C:h[n]?=some (some (.aA sz row g)):=hx.aA I;have E:=(UY.1 C).1;simp only[iu,C];rw[U4 ⟨Vd,Vd,W,hb⟩];cases cap with
  | none=>obtain rfl:=a1 rfl;simp only[VS];rw[V9]at he;refine⟨_,_,rfl,?_,(eW.aI none (λ_=>hn)).aD (eW.aF F _ _) (λ_ _ x=>x) (λ_ _ x=>x)⟩;rw[he];exact u _ _ (by simp)
  | some c=>
   have hc1:=a2 c rfl;have a6:=Z c rfl;cases c with
   | zero=>
    have a4:es=[]:=U7 (by omega);subst a4;simp only[Ve,VS];by_cases hy0:ys.length=0;·rw[U4 hy0];have a3:ys=[]:=U7 hy0;subst a3;exact⟨_,_,rfl,.inr ⟨n,off,some 0,row,g,rfl,.inl ⟨hn,E⟩,C,W,a2,a1,Z,he⟩,eW.aC _ _⟩
    ·rw[U6 hy0];exact⟨(gR h sz ys).1,(gR h sz ys).2,rfl,u h ys (U8 _),eW.aF _ _ _⟩
   | succ c=>
    simp only;by_cases hcap:c+1<es.length+ys.length;·rw[U4 hcap,he];exact⟨_,_,rfl,u _ _ (U8 _),eW.aF _ _ _⟩
    ·rw[U6 hcap,U4 (by omega)];have U:(gM row (off+es.length) ys).length=row.length:=by simp[gM];omega
     refine⟨_,_,rfl,.inr ⟨n,off,some (c+1),gM row (off+es.length) ys,g,by rw[U1],.inl ⟨hn,E⟩,by rw[U5 E],by rw[U,U1];omega,
      (λc' O=>by cases O;rw[U1];omega),(λe=>by cases e),(λc' O=>by cases O;rw[U];exact a6),?_⟩,eW.aI _ (λ_=>hn)⟩
     apply VM;intro i;have a5:∀i,i<es.length->row[off+i]?=es[i]?:=λi hi=>by
      have:es[i]?=((row.drop off).take es.length)[i]?:=by rw[he]
      rw[this,VQ hi,Vt]
     simp only[VZ,Vt,U1,gM,V_,Va,U1];rw[show min (off+es.length) row.length=off+es.length by omega];by_cases h1:i<es.length;·rw[U4 (by omega),U4 (by omega),U4 (by omega),U4 (by omega),U4 h1];exact a5 i h1
     ·by_cases h2:i<es.length+ys.length
      ·rw[U4 h2,U4 (by omega),U6 (by omega),U6 h1];congr 1;omega
      ·rw[U6 h2,U6 h1,VH (by omega)]
end
structure i9 where
 l:List fj
 aD:List fF
 aC:List Int
 aG:List fJ
 aA:List fU
 aE:List Int
 aF:List Int
 aH:List Int
structure f_ where
 lv:AV
 hv:AV
 av:AV
 pv:AV
 dv:AV
 tv:AV
 ev:AV
 qv:AV
 rs:List Nat
def f_.aA (w:f_):List AV:=[w.lv,w.hv,w.av,w.pv,w.dv,w.tv,w.ev,w.qv,.aE false]
def gB (k:Nat)(Λ:Nat->Nat):Nat->Nat:=λm=>if Λ m / 10=k+1 then Λ m % 10 else 0
def hU (l:List Int):List (List AV):=l.map λn=>[AV.aA .i64 n]
def Zs (Λ:Nat->Nat)(h:eX):Nat->Prop:=λm=>Λ m=0/\m<h.length
structure fW (Λ:Nat->Nat)(h:eX)(nb:Nat)(w:f_)(v:i9):Prop where
 lt:∀m,Λ m≠0->m<h.length
 aC:Λ nb=101
 aA:h[nb]?=some (some (.aA 9 [w.aA] false))
 aE:w.rs.length=v.l.length/\v.l.length<=5
 l:gC (λm=>Λ m=102) h 1 w.lv (w.rs.map λr=>[.aC r 21 0 0])
 aF:∀k (h1:k<w.rs.length) (h2:k<v.l.length),iI (gB k Λ) h w.rs[k] v.l[k]
 aJ:∃rows,gC (λm=>Λ m=103) h 2 w.hv rows/\fY (Zs Λ h) h (v.aD.map λx=>(iQ x).c) rows
 aL:gC (λm=>Λ m=104) h 1 w.av (hU v.aC)
 aH:∃rows,gC (λm=>Λ m=105) h 17 w.pv rows/\fY (Zs Λ h) h (v.aG.map fJ.c) rows
 aI:∃rows,gC (λm=>Λ m=106) h 3 w.dv rows/\fY (Zs Λ h) h (v.aA.map fU.c) rows
 aN:gC (λm=>Λ m=107) h 1 w.tv (hU v.aE)
 aK:gC (λm=>Λ m=108) h 1 w.ev (hU v.aF)
 aM:gC (λm=>Λ m=109) h 1 w.qv (hU v.aH)
section
variable {Λ Λ':Nat->Nat} {h h':eX} {nb:Nat} {w:f_} {v:i9}
theorem fW.bF (a:fW Λ h nb w v)(hl:h.length<=h'.length)(he:∀m,m<h.length->Λ' m=Λ m)(hlt:∀m,Λ' m≠0->m<h'.length) (hk:∀m,m<h.length->Λ m<110->h'[m]?=h[m]?) (u:∀m,h.length<=m->Λ' m=0\/110<=Λ' m):fW Λ' h' nb w v:=by
 have nbl:=(UY.1 a.aA).1;have z:∀m,Zs Λ h m->Zs Λ' h' m:=λm hm=>⟨(he m hm.2).trans hm.1,Vj hm.2 hl⟩;have kz:gY (Zs Λ h) h h':=λm hm y hy=>(hk m hm.2 (by rw[hm.1];omega)).trans hy;have cc:∀{j sz:Nat}{b:AV} {es:List (List AV)},j<110->gC (λm=>Λ m=j) h sz b es->gC (λm=>Λ' m=j) h' sz b es:=λhj c=>c.aA (λm hm hlt=>(he m hlt).trans hm) (λm hm hlt=>hk m hlt (by have hm':Λ m=_:=hm;omega));obtain⟨hr,h1,h2⟩:=a.aJ;obtain⟨pr,p1,p2⟩:=a.aH;obtain⟨dr,d1,d2⟩:=a.aI;refine⟨hlt,(he nb nbl).trans a.aC,(hk nb nbl (by rw[a.aC];omega)).trans a.aA,a.aE,cc (by omega) a.l,λk k1 k2=>?_,⟨hr,cc (by omega) h1,fY.aA z kz _ _ h2⟩,cc (by omega) a.aL,⟨pr,cc (by omega) p1,fY.aA z kz _ _ p2⟩,⟨dr,cc (by omega) d1,fY.aA z kz _ _ d2⟩,cc (by omega) a.aN,cc (by omega) a.aK,cc (by omega) a.aM⟩;have m0:=a.aF k k1 k2;have e:gB k Λ'=gB k Λ:=by
  funext m
  by_cases c:m<h.length
  ·unfold gB;rw[he m c]
  ·have:k<5:=by have:=a.aE;omega
   have e0:gB k Λ' m=0:=by unfold gB;rcases u m (by omega) with z | z<;>(split<;>omega)
   rw[e0];have:Λ m=0:=Vb λy=>c (a.lt m y);unfold gB;rw[this];simp
 rw[e];refine m0.aC hl (λm hm=>hk m (m0.aA m hm).1 ?_);have:k<5:=by have:=a.aE;omega
 unfold gB at hm;split at hm;·omega
 ·exact absurd rfl hm
theorem fW.up (a:fW Λ h nb w v)(hx:eW eZ h h'):fW Λ h' nb w v:=by
 have z:∀m,h.length<=m->Λ m=0:=λm hm=>Vb λy=>by have:=a.lt m y;omega
 refine a.bF hx.1 (λ_ _=>rfl) (λm hm=>Vj (a.lt m hm) hx.1) (λm hm _=>hx.2 m hm (λy=>y)) (λm hm=>.inl (z m hm))
def mE (k:Nat)(Λ:Nat->Nat)(n:Nat)(L':Nat->Nat):Nat->Nat:=λm=>if m<n then Λ m else if L' m=0 then 0 else 10*(k+1)+L' m
theorem fW.bC {k:Nat}{R:fj}{L':Nat->Nat}(a:fW Λ h nb w v)(hk5:k<w.rs.length)(hkl:k<v.l.length) (m':iI L' h' w.rs[k] R) (e:∀m,m<h.length->L' m=gB k Λ m) (hx:eW (λm=>wA (gB k Λ m)) h h'):
  fW (mE k Λ h.length L') h' nb w {v with l:=v.l.set k R}/\(∀m,m<h.length->mE k Λ h.length L' m=Λ m)/\(∀m,h.length<=m->L' m=0->mE k Λ h.length L' m=0):=by
 have old:∀m,m<h.length->mE k Λ h.length L' m=Λ m:=λm hm=>U4 hm;have hl:=hx.1;have nbl:=(UY.1 a.aA).1;have small:∀m,L' m≠0->L' m<10:=λm hm=>by have:=(m'.aA m hm).2;omega
 have pk:∀m,gB k (mE k Λ h.length L') m=L' m:=by
  intro m;by_cases c:m<h.length;·unfold gB;rw[old m c];exact (e m c).symm
  ·unfold gB mE;rw[U6 c];by_cases c2:L' m=0;·rw[U4 c2,c2];simp
   ·rw[U6 c2];have:=small m c2;rw[U4 (by omega)];omega
 have pj:∀j,j≠k->gB j (mE k Λ h.length L')=gB j Λ:=by
  intro j hj;funext m;by_cases c:m<h.length;·unfold gB;rw[old m c]
  ·have z:Λ m=0:=Vb λy=>c (a.lt m y);unfold gB mE;rw[U6 c,z];by_cases c2:L' m=0;·rw[U4 c2]
   ·rw[U6 c2];have:=small m c2;rw[U6 (by omega)];simp
 have ke:∀m,m<h.length->Λ m / 10≠k+1->h'[m]?=h[m]?:=λm hm hq=>hx.2 m hm (λy=>y (by unfold gB;rw[U6 hq]));have k5:k<5:=by have:=a.aE;omega
 have z:∀m,Zs Λ h m->Zs (mE k Λ h.length L') h' m:=λm hm=>⟨(old m hm.2).trans hm.1,Vj hm.2 hl⟩;have kz:gY (Zs Λ h) h h':=λm hm y hy=>(ke m hm.2 (by rw[hm.1];omega)).trans hy;have cc:∀{j sz:Nat}{b:AV} {es:List (List AV)},100<=j->gC (λm=>Λ m=j) h sz b es->gC (λm=>mE k Λ h.length L' m=j) h' sz b es:=λhj c=>c.aA (λm hm hlt=>(old m hlt).trans hm) (λm hm hlt=>ke m hlt (by omega));obtain⟨hr,h1,h2⟩:=a.aJ;obtain⟨pr,p1,p2⟩:=a.aH;obtain⟨dr,d1,d2⟩:=a.aI;refine⟨⟨λm hm=>?_,(old nb nbl).trans a.aC,(ke nb nbl (by rw[a.aC];omega)).trans a.aA,⟨by rw[U9];exact a.aE.1,by rw[U9];exact a.aE.2⟩,cc (by omega) a.l,λj j1 j2=>?_,⟨hr,cc (by omega) h1,fY.aA z kz _ _ h2⟩,cc (by omega) a.aL,⟨pr,cc (by omega) p1,fY.aA z kz _ _ p2⟩,⟨dr,cc (by omega) d1,fY.aA z kz _ _ d2⟩,cc (by omega) a.aN,cc (by omega) a.aK,cc (by omega) a.aM⟩,old,λm hm h0=>?_⟩
 ·by_cases c:m<h.length
  ·exact Vj c hl
  ·unfold mE at hm;rw[U6 c]at hm;by_cases c2:L' m=0;·rw[U4 c2]at hm;exact absurd rfl hm
   ·exact (m'.aA m c2).1
 ·have u:j<v.l.length:=by simpa using j2
  have gs:(v.l.set k R)[j]'j2=if k=j then R else v.l[j]:=List.getElem_set j2
  rw[gs];by_cases c:k=j;·subst c;rw[U4 rfl];have:gB k (mE k Λ h.length L')=L':=funext pk;rw[this];exact m'
  ·rw[U6 c,pj j (λy=>c y.symm)];have m0:=a.aF j j1 u;refine m0.aC hl (λm hm=>ke m (m0.aA m hm).1 ?_);unfold gB at hm;split at hm;·omega
   ·exact absurd rfl hm
 ·unfold mE;rw[U6 (by omega),U4 h0]
end
structure Eh (j:Nat)(Λ:Nat->Nat)(h:eX)(nb:Nat)(w:f_)(v:i9):Prop where
 lt:∀m,Λ m≠0->m<h.length
 aC:Λ nb=101
 aD:w.rs.length=v.l.length/\v.l.length<=5
 l:j≠102->gC (λm=>Λ m=102) h 1 w.lv (w.rs.map λr=>[.aC r 21 0 0])
 aA:∀k (h1:k<w.rs.length) (h2:k<v.l.length),iI (gB k Λ) h w.rs[k] v.l[k]
 aJ:j≠103->∃rows,gC (λm=>Λ m=103) h 2 w.hv rows/\fY (Zs Λ h) h (v.aD.map λx=>(iQ x).c) rows
 aI:j≠104->gC (λm=>Λ m=104) h 1 w.av (hU v.aC)
 aK:j≠105->∃rows,gC (λm=>Λ m=105) h 17 w.pv rows/\fY (Zs Λ h) h (v.aG.map fJ.c) rows
 aE:j≠106->∃rows,gC (λm=>Λ m=106) h 3 w.dv rows/\fY (Zs Λ h) h (v.aA.map fU.c) rows
 aH:j≠107->gC (λm=>Λ m=107) h 1 w.tv (hU v.aE)
 aG:j≠108->gC (λm=>Λ m=108) h 1 w.ev (hU v.aF)
 aF:j≠109->gC (λm=>Λ m=109) h 1 w.qv (hU v.aH)
 z:∀m,Zs Λ h m->True
structure gy (Λ:Nat->Nat)(h:eX)(Λ':Nat->Nat)(h':eX):Prop where
 aD:h.length<=h'.length
 aC:∀m,m<h.length->Λ' m=Λ m
 z:∀m,m<h.length->Λ m=0->h'[m]?=h[m]?
 aG:∀m,m<h.length->110<=Λ m->h'[m]?=h[m]?
theorem gy.aF (Λ h):gy Λ h Λ h:=⟨U8 _,λ_ _=>rfl,λ_ _ _=>rfl,λ_ _ _=>rfl⟩
theorem gy.aA {Λ h Λ1 h1 Λ2 h2}(a:gy Λ h Λ1 h1)(b:gy Λ1 h1 Λ2 h2):gy Λ h Λ2 h2:=
 ⟨Vh a.aD b.aD,λm hm=>(b.aC m (Vj hm a.aD)).trans (a.aC m hm),λm hm e=>(b.z m (Vj hm a.aD) ((a.aC m hm).trans e)).trans (a.z m hm e),λm hm e=>(b.aG m (Vj hm a.aD) (by rw[a.aC m hm];exact e)).trans (a.aG m hm e)⟩
theorem gy.up {Λ h h'}(hx:eW eZ h h'):gy Λ h Λ h':=⟨hx.1,λ_ _=>rfl,λm hm _=>hx.2 m hm (λy=>y),λm hm _=>hx.2 m hm (λy=>y)⟩
theorem gy.zs {Λ h Λ' h'}(a:gy Λ h Λ' h'):∀m,Zs Λ h m->Zs Λ' h' m:=λm hm=>⟨(a.aC m hm.2).trans hm.1,Vj hm.2 a.aD⟩
theorem gy.kz {Λ h Λ' h'}(a:gy Λ h Λ' h'):gY (Zs Λ h) h h':=λm hm y hy=>(a.z m hm.2 hm.1).trans hy
theorem gy.rd {Λ h Λ' h' d x}(a:gy Λ h Λ' h')(hr:Rd (Zs Λ h) h d x):Rd (Zs Λ' h') h' d x:=Rd.aE a.zs a.kz _ _ hr
theorem gy.aE {Λ h Λ' h' d x}(a:gy Λ h Λ' h')(hr:fu (Zs Λ h) h d x):fu (Zs Λ' h') h' d x:=fu.aA a.zs a.kz _ _ hr
def nu (Λ:Nat->Nat)(n n' j:Nat):Nat->Nat:=λm=>if m<n then Λ m else if m<n' then j else 0
section
variable {Λ:Nat->Nat} {h h':eX} {nb:Nat} {w:f_} {v:i9}
theorem fW.aD (a:fW Λ h nb w v){m:Nat}(hm:h.length<=m):Λ m=0:=Vb λy=>by have:=a.lt m y;omega
theorem fW.aS (a:fW Λ h nb w v){j:Nat}(hj:102<=j/\j<=109)(hl:h.length<=h'.length) (hk:∀m,m<h.length->Λ m≠j->m≠nb->h'[m]?=h[m]?):Eh j (nu Λ h.length h'.length j) h' nb w v/\gy Λ h (nu Λ h.length h'.length j) h':=by
 have nbl:=(UY.1 a.aA).1;have old:∀m,m<h.length->nu Λ h.length h'.length j m=Λ m:=λm hm=>U4 hm;have sm:gy Λ h (nu Λ h.length h'.length j) h':=⟨hl,old,λm hm e=>hk m hm (by omega) (λy=>by rw[y,a.aC]at e;omega),λm hm e=>hk m hm (by omega) (λy=>by rw[y,a.aC]at e;omega)⟩;have cc:∀{i sz:Nat}{b:AV} {es:List (List AV)},j≠i->i≠101->gC (λm=>Λ m=i) h sz b es->gC (λm=>nu Λ h.length h'.length j m=i) h' sz b es:=λhi h1 c=>c.aA (λm hm hlt=>(old m hlt).trans hm) (λm hm hlt=>hk m hlt (by omega) (λy=>by rw[y,a.aC]at hm;omega));refine⟨⟨λm hm=>?_,(old nb nbl).trans a.aC,a.aE,λc=>cc c (by omega) a.l,λk k1 k2=>?_,λc=>?_,λc=>cc c (by omega) a.aL,λc=>?_,λc=>?_,λc=>cc c (by omega) a.aN,λc=>cc c (by omega) a.aK,λc=>cc c (by omega) a.aM,λ_ _=>Vd⟩,sm⟩
 ·by_cases c:m<h.length
  ·omega
  ·unfold nu at hm;rw[U6 c]at hm;by_cases c2:m<h'.length;·exact c2
   ·rw[U6 c2]at hm;exact absurd rfl hm
 ·have m0:=a.aF k k1 k2;have k5:k<5:=by have:=a.aE;omega
  have e:gB k (nu Λ h.length h'.length j)=gB k Λ:=by
   funext m
   by_cases c:m<h.length
   ·unfold gB;rw[old m c]
   ·have z:=a.aD (m:=m) (by omega);unfold gB nu;rw[z,U6 c];split<;>split<;>first | rfl | omega | simp
  rw[e];refine m0.aC hl (λm hm=>?_);have u:=(m0.aA m hm).1;unfold gB at hm;split at hm;·exact hk m u (by omega) (λy=>by rename_i c;rw[y,a.aC]at c;omega)
  ·exact absurd rfl hm
 ·obtain⟨rows,h1,h2⟩:=a.aJ;exact⟨rows,cc c (by omega) h1,fY.aA sm.zs sm.kz _ _ h2⟩
 ·obtain⟨rows,h1,h2⟩:=a.aH;exact⟨rows,cc c (by omega) h1,fY.aA sm.zs sm.kz _ _ h2⟩
 ·obtain⟨rows,h1,h2⟩:=a.aI;exact⟨rows,cc c (by omega) h1,fY.aA sm.zs sm.kz _ _ h2⟩
theorem fW.aP (a:fW Λ h nb w v){h2:eX}(hx:eW eZ h h2){j sz bytes:Nat}(hj:102<=j/\j<=109){x:AV}{es ys:List (List AV)}(c:gC (λm=>Λ m=j) h sz x es)(hb:(es.length+ys.length)*bytes<=2^46):
  ∃x' h3,iu h2 sz bytes x ys=some (x',h3)/\x'.aH=true/\h3[nb]?=some (some (.aA 9 [w.aA] false))/\nb<h3.length/\∀r:List AV,∃Λ',Eh j Λ' (h3.set nb (some (.aA 9 [r] false))) nb w v/\gy Λ h Λ' (h3.set nb (some (.aA 9 [r] false)))/\gy Λ h2 Λ' (h3.set nb (some (.aA 9 [r] false))) /\
   gC (λm=>Λ' m=j) (h3.set nb (some (.aA 9 [r] false))) sz x' (es++ys)/\(h3.set nb (some (.aA 9 [r] false)))[nb]?=some (some (.aA 9 [r] false)):=by
 have a2:=a.up hx;have C:=(UY.1 a2.aA).1;obtain⟨x',h3,e1,c3,X3⟩:=c.aC (bytes:=bytes) (ys:=ys) hx hb;have W:=X3.1;have I:h3[nb]?=some (some (.aA 9 [w.aA] false)):=(X3.2 nb C (λy=>by have y':Λ nb=j:=y;rw[a.aC]at y';omega)).trans a2.aA;have u:nb<h3.length:=by omega
 refine⟨x',h3,e1,c3.aE,I,u,λr=>⟨nu Λ h2.length (h3.set nb (some (.aA 9 [r] false))).length j,?_⟩⟩;obtain⟨r1,s1⟩:=a2.aS (h':=h3.set nb (some (.aA 9 [r] false))) hj (by rw[U9];exact W) (λm hm M O=>by rw[UZ (λe=>O e.symm)];exact X3.2 m hm M);refine⟨r1,(gy.up hx).aA s1,s1,c3.aA (λm hm hlt=>?_) (λm hm hlt=>?_),U5 u⟩
 ·rw[U9];unfold nu;rcases hm with⟨hm,E⟩ | hm;·rw[U4 E];exact hm
  ·rw[U6 (by omega),U4 hlt]
 ·refine UZ (λe=>?_);rcases hm with⟨hm,E⟩ | hm;·have U:Λ m=j:=hm;rw[<-e,a.aC]at U;omega
  ·omega
theorem fW.aV (a:fW Λ h nb w v){h2:eX}(hx:eW eZ h h2){ms:List fJ}{ys:List (List AV)}(hy:fY (Zs Λ h2) h2 (ms.map fJ.c) ys)(hb:(v.aG.length+ms.length)*200<=2^46){bytes:Nat}(u:bytes<=200):
  ∃x' h3,iu h2 17 bytes w.pv ys=some (x',h3)/\x'.aH=true/\h3[nb]?=some (some (.aA 9 [w.aA] false))/\nb<h3.length/\∃Λ',gy Λ h Λ' (h3.set nb (some (.aA 9 [({w with pv:=x'}:f_).aA] false)))/\fW Λ' (h3.set nb (some (.aA 9 [({w with pv:=x'}:f_).aA] false))) nb {w with pv:=x'} {v with aG:=v.aG++ms}:=by
 obtain⟨rows,p1,p2⟩:=a.aH;have l1:=kM p2;have l2:=kM hy;simp only[Vg]at l1 l2;obtain⟨x',h3,e1,sc,n3,e,f⟩:=a.aP hx (bytes:=bytes) (ys:=ys) (by omega) p1 (by rw[l1,l2];exact Vh (Nat.mul_le_mul_left _ u) hb);obtain⟨Λ',r1,s1,s2,c1,row⟩:=f ({w with pv:=x'}:f_).aA;refine⟨x',h3,e1,sc,n3,e,Λ',s1,r1.lt,r1.aC,row,r1.aD,r1.l (by omega),r1.aA,r1.aJ (by omega),r1.aI (by omega),⟨_,c1,?_⟩,r1.aE (by omega),r1.aH (by omega),r1.aG (by omega),r1.aF (by omega)⟩;show fY _ _ ((v.aG++ms).map fJ.c) _;rw[VJ];exact uB (fY.aA s1.zs s1.kz _ _ p2) (fY.aA s2.zs s2.kz _ _ hy)
theorem fW.bu (a:fW Λ h nb w v){h2:eX}(hx:eW eZ h h2){en:fU}{cs:List AV}(hy:fu (Zs Λ h2) h2 en.c cs)(hb:v.aA.length<=2^30){bytes:Nat}(u:bytes<=200):
  ∃x' h3,iu h2 3 bytes w.dv [cs]=some (x',h3)/\x'.aH=true/\h3[nb]?=some (some (.aA 9 [w.aA] false))/\nb<h3.length/\∃Λ',gy Λ h Λ' (h3.set nb (some (.aA 9 [({w with dv:=x'}:f_).aA] false)))/\fW Λ' (h3.set nb (some (.aA 9 [({w with dv:=x'}:f_).aA] false))) nb {w with dv:=x'} {v with aA:=v.aA++[en]}:=by
 obtain⟨rows,p1,p2⟩:=a.aI;have l1:=kM p2;simp only[Vg]at l1;obtain⟨x',h3,e1,sc,n3,e,f⟩:=a.aP hx (bytes:=bytes) (ys:=[cs]) (by omega) p1 (by rw[l1];have:(v.aA.length+1)*bytes<=(2^30+1)*200:=Nat.mul_le_mul (by omega) u;exact Vh this (by decide));obtain⟨Λ',r1,s1,s2,c1,row⟩:=f ({w with dv:=x'}:f_).aA;refine⟨x',h3,e1,sc,n3,e,Λ',s1,r1.lt,r1.aC,row,r1.aD,r1.l (by omega),r1.aA,r1.aJ (by omega),r1.aI (by omega),r1.aK (by omega),⟨_,c1,?_⟩,r1.aH (by omega),r1.aG (by omega),r1.aF (by omega)⟩;show fY _ _ ((v.aA++[en]).map fU.c) _;rw[VJ];exact uB (fY.aA s1.zs s1.kz _ _ p2) (by simp only[Vv,VO,fY];exact⟨_,_,rfl,s2.aE hy,rfl⟩)
theorem fW.bB (a:fW Λ h nb w v){h2:eX}(hx:eW eZ h h2)(n:Int)(hb:v.aE.length<=2^30):
  ∃x' h3,iu h2 1 8 w.tv [[.aA .i64 n]]=some (x',h3)/\x'.aH=true/\h3[nb]?=some (some (.aA 9 [w.aA] false))/\nb<h3.length/\∃Λ',gy Λ h Λ' (h3.set nb (some (.aA 9 [({w with tv:=x'}:f_).aA] false)))/\fW Λ' (h3.set nb (some (.aA 9 [({w with tv:=x'}:f_).aA] false))) nb {w with tv:=x'} {v with aE:=v.aE++[n]}:=by
 obtain⟨x',h3,e1,sc,n3,e,f⟩:=a.aP hx (bytes:=8) (ys:=[[.aA .i64 n]]) (j:=107) (by omega) a.aN (by simp only[hU,Vg,VW];omega);obtain⟨Λ',r1,s1,s2,c1,row⟩:=f ({w with tv:=x'}:f_).aA;have c2:gC (λm=>Λ' m=107) (h3.set nb (some (.aA 9 [({w with tv:=x'}:f_).aA] false))) 1 x' (hU (v.aE++[n])):=by
  have:hU (v.aE++[n])=hU v.aE++[[.aA .i64 n]]:=by simp[hU]
  rw[this];exact c1
 refine⟨x',h3,e1,sc,n3,e,Λ',s1,r1.lt,r1.aC,row,r1.aD,r1.l (by omega),r1.aA,r1.aJ (by omega),r1.aI (by omega),r1.aK (by omega),r1.aE (by omega),?_,?_,?_⟩;·first | exact c2 | exact r1.then' (by omega)
 ·first | exact c2 | exact r1.aG (by omega)
 ·first | exact c2 | exact r1.aF (by omega)
theorem fW.bA (a:fW Λ h nb w v){h2:eX}(hx:eW eZ h h2)(n:Int)(hb:v.aF.length<=2^30):
  ∃x' h3,iu h2 1 8 w.ev [[.aA .i64 n]]=some (x',h3)/\x'.aH=true/\h3[nb]?=some (some (.aA 9 [w.aA] false))/\nb<h3.length/\∃Λ',gy Λ h Λ' (h3.set nb (some (.aA 9 [({w with ev:=x'}:f_).aA] false)))/\fW Λ' (h3.set nb (some (.aA 9 [({w with ev:=x'}:f_).aA] false))) nb {w with ev:=x'} {v with aF:=v.aF++[n]}:=by
 obtain⟨x',h3,e1,sc,n3,e,f⟩:=a.aP hx (bytes:=8) (ys:=[[.aA .i64 n]]) (j:=108) (by omega) a.aK (by simp only[hU,Vg,VW];omega);obtain⟨Λ',r1,s1,s2,c1,row⟩:=f ({w with ev:=x'}:f_).aA;have c2:gC (λm=>Λ' m=108) (h3.set nb (some (.aA 9 [({w with ev:=x'}:f_).aA] false))) 1 x' (hU (v.aF++[n])):=by
  have:hU (v.aF++[n])=hU v.aF++[[.aA .i64 n]]:=by simp[hU]
  rw[this];exact c1
 refine⟨x',h3,e1,sc,n3,e,Λ',s1,r1.lt,r1.aC,row,r1.aD,r1.l (by omega),r1.aA,r1.aJ (by omega),r1.aI (by omega),r1.aK (by omega),r1.aE (by omega),?_,?_,?_⟩;·first | exact c2 | exact r1.aH (by omega)
 ·first | exact c2 | exact r1.terms (by omega)
 ·first | exact c2 | exact r1.aF (by omega)
theorem fW.bz (a:fW Λ h nb w v){h2:eX}(hx:eW eZ h h2)(n:Int)(hb:v.aH.length<=2^30):
  ∃x' h3,iu h2 1 8 w.qv [[.aA .i64 n]]=some (x',h3)/\x'.aH=true/\h3[nb]?=some (some (.aA 9 [w.aA] false))/\nb<h3.length/\∃Λ',gy Λ h Λ' (h3.set nb (some (.aA 9 [({w with qv:=x'}:f_).aA] false)))/\fW Λ' (h3.set nb (some (.aA 9 [({w with qv:=x'}:f_).aA] false))) nb {w with qv:=x'} {v with aH:=v.aH++[n]}:=by
 obtain⟨x',h3,e1,sc,n3,e,f⟩:=a.aP hx (bytes:=8) (ys:=[[.aA .i64 n]]) (j:=109) (by omega) a.aM (by simp only[hU,Vg,VW];omega);obtain⟨Λ',r1,s1,s2,c1,row⟩:=f ({w with qv:=x'}:f_).aA;have c2:gC (λm=>Λ' m=109) (h3.set nb (some (.aA 9 [({w with qv:=x'}:f_).aA] false))) 1 x' (hU (v.aH++[n])):=by
  have:hU (v.aH++[n])=hU v.aH++[[.aA .i64 n]]:=by simp[hU]
  rw[this];exact c1
 refine⟨x',h3,e1,sc,n3,e,Λ',s1,r1.lt,r1.aC,row,r1.aD,r1.l (by omega),r1.aA,r1.aJ (by omega),r1.aI (by omega),r1.aK (by omega),r1.aE (by omega),?_,?_,?_⟩;·first | exact c2 | exact r1.aH (by omega)
 ·first | exact c2 | exact r1.aG (by omega)
 ·first | exact c2 | exact r1.leads (by omega)
end
theorem Et {F:Nat->Prop}{h:eX}:∀{ds:List (List D)} {es:List (List AV)} (j:Nat) {d:List D} {cs:List AV},fY F h ds es->fu F h d cs->fY F h (ds.set j d) (es.set j cs)
 | [],es,j,d,cs,hh,hd=>by simp only[fY]at hh;subst hh;simp[fY]
 | e :: ds,es,0,d,cs,hh,hd=>by simp only[fY]at hh;obtain⟨a,r,rfl,h1,h2⟩:=hh;exact⟨_,_,rfl,hd,h2⟩
 | e :: ds,es,j+1,d,cs,hh,hd=>by simp only[fY]at hh;obtain⟨a,r,rfl,h1,h2⟩:=hh;exact⟨_,_,rfl,h1,Et j h2 hd⟩
section
variable {Λ:Nat->Nat} {h h':eX} {nb:Nat} {w:f_} {v:i9}
theorem fW.aQ (a:fW Λ h nb w v){k:Nat}(hk:k<v.aC.length):∃n0 j row g,jg 1 w.av (.aA .i64 k)=some (.aC n0 1 j 0)/\h[n0]?=some (some (.aA 1 row g))/\row[j]?=some [.aA .i64 v.aC[k]]/\n0≠nb/\n0<h.length/\Λ n0≠0 /\
  ∀n:Int,∃Λ',gy Λ h Λ' (h.set n0 (some (.aA 1 (row.set j [.aA .i64 n]) g)))/\fW Λ' (h.set n0 (some (.aA 1 (row.set j [.aA .i64 n]) g))) nb w {v with aC:=v.aC.set k n}:=by
 obtain⟨n0,off,row,g,e1,e2,e3,e4,f⟩:=a.aL.at (i:=k) (by simpa [hU] using hk);have hn:=(UY.1 e3).1;have e2':Λ n0=104:=e2;have nn:n0≠nb:=λy=>by rw[y,a.aC]at e2';omega
 refine⟨n0,off+k,row,g,e1,e3,by rw[e4];simp[hU],nn,hn,by omega,λn=>?_⟩;obtain⟨r1,s1⟩:=a.aS (h':=h.set n0 (some (.aA 1 (row.set (off+k) [.aA .i64 n]) g))) (j:=104) (by omega) (by simp) (λm hm hne _=>UZ (λy=>hne (by rw[<-y];exact e2')));refine⟨_,s1,r1.lt,r1.aC,(UZ nn).trans a.aA,r1.aD,r1.l (by omega),r1.aA,r1.aJ (by omega),?_,r1.aK (by omega),r1.aE (by omega),r1.aH (by omega),r1.aG (by omega),r1.aF (by omega)⟩;have:=f [.aA .i64 n];have e:hU (v.aC.set k n)=(hU v.aC).set k [.aA .i64 n]:=by simp[hU,Xi]
 show gC _ _ 1 w.av (hU (v.aC.set k n));rw[e];exact this.aA (λm hm hlt=>(s1.aC m (by simpa using hlt)).trans hm) (λ_ _ _=>rfl)
theorem fW.aR (a:fW Λ h nb w v){k:Nat}(hk:k<v.aD.length):∃n0 j row g x y,jg 2 w.hv (.aA .i64 k)=some (.aC n0 2 j 0)/\h[n0]?=some (some (.aA 2 row g))/\row[j]?=some [x,y]/\fu (Zs Λ h) h (iQ v.aD[k]).c [x,y]/\n0≠nb/\n0<h.length/\Λ n0≠0 /\
  ∀(q:fF)(x' y':AV),fu eZ h (iQ q).c [x',y']->∃Λ',gy Λ h Λ' (h.set n0 (some (.aA 2 (row.set j [x',y']) g)))/\fW Λ' (h.set n0 (some (.aA 2 (row.set j [x',y']) g))) nb w {v with aD:=v.aD.set k q}:=by
 obtain⟨rows,p1,p2⟩:=a.aJ;have hl:=kM p2;simp only[Vg]at hl;obtain⟨n0,off,row,g,e1,e2,e3,e4,f⟩:=p1.at (i:=k) (by omega);have hn:=(UY.1 e3).1;have e:Λ n0=103:=e2;have nn:n0≠nb:=λy=>by rw[y,a.aC]at e;omega
 obtain⟨cs,c1,c2⟩:=sG p2 k ((iQ v.aD[k]).c) (by rw[VE,U0 hk];rfl);rw[U0 (by omega)]at c1;injection c1 with c1;obtain⟨x,y,rfl⟩:∃x y,cs=[x,y]:=by
  have:=uC c2;simp only[jf.c,Vf,Ve]at this;match cs,this with
  | [x,y],_=>exact⟨x,y,rfl⟩
 refine⟨n0,off+k,row,g,x,y,e1,e3,by rw[e4,c1],c2,nn,hn,by omega,λq x' y' hq=>?_⟩;obtain⟨r1,s1⟩:=a.aS (h':=h.set n0 (some (.aA 2 (row.set (off+k) [x',y']) g))) (j:=103) (by omega) (by simp) (λm hm u _=>UZ (λy=>u (by rw[<-y];exact e)));refine⟨_,s1,r1.lt,r1.aC,(UZ nn).trans a.aA,r1.aD,r1.l (by omega),r1.aA,⟨rows.set k [x',y'],(f [x',y']).aA (λm hm hlt=>(s1.aC m (by simpa using hlt)).trans hm) (λ_ _ _=>rfl),?_⟩,r1.aI (by omega),r1.aK (by omega),r1.aE (by omega),r1.aH (by omega),r1.aG (by omega),r1.aF (by omega)⟩;show fY _ _ ((v.aD.set k q).map λx=>(iQ x).c) _;rw[Xi];exact Et k (fY.aA s1.zs s1.kz _ _ p2) (fu.aA (λ_ y=>y.elim) (λ_ y=>y.elim) _ _ hq)
theorem fW.aG (a:fW Λ h nb w v){k:Nat}(hk:k<v.l.length):∃n0 j row g r,jg 1 w.lv (.aA .i64 k)=some (.aC n0 1 j 0)/\h[n0]?=some (some (.aA 1 row g))/\row[j]?=some [.aC r 21 0 0]/\w.rs[k]?=some r/\iI (gB k Λ) h r v.l[k]/\n0≠nb/\n0<h.length/\Λ n0=102 /\
  ∀cs,gC (λm=>Λ m=102) (h.set n0 (some (.aA 1 (row.set j cs) g))) 1 w.lv ((w.rs.map λr=>[AV.aC r 21 0 0]).set k cs):=by
 have e:k<w.rs.length:=by have:=a.aE;omega
 obtain⟨n0,off,row,g,e1,e2,e3,e4,f⟩:=a.l.at (i:=k) (by simpa using e);have u:Λ n0=102:=e2;exact⟨n0,off+k,row,g,w.rs[k],e1,e3,by rw[e4];simp,U0 e,a.aF k e hk,λy=>by rw[y,a.aC]at u;omega,(UY.1 e3).1,u,f⟩
theorem fW.aX (a:fW Λ h nb w v){i:Nat}(hi:i<v.aG.length):∃n0 j row g e d,jg 17 w.pv (.aA .i64 i)=some (.aC n0 17 j 0)/\h[n0]?=some (some (.aA 17 row g))/\row[j]?=some (v.aG[i].aD e d)/\Rd (Zs Λ h) h (gK v.aG[i].es) e/\Rd (Zs Λ h) h (gq v.aG[i].aF) d/\Λ n0=105:=by obtain⟨rows,p1,p2⟩:=a.aH;have hl:=kM p2;simp only[Vg]at hl;obtain⟨n0,off,row,g,e1,e2,e3,e4,f⟩:=p1.at (i:=i) (by omega);obtain⟨cs,c1,c2⟩:=sG p2 i (v.aG[i].c) (by rw[VE,U0 hi];rfl);rw[U0 (by omega)]at c1;injection c1 with c1;obtain⟨e,d,rfl,he,hd⟩:=pL c2;exact⟨n0,off+i,row,g,e,d,e1,e3,by rw[e4,c1],he,hd,e2⟩
theorem fW.aO (a:fW Λ h nb w v):ik w.pv=some (.aA .i64 v.aG.length):=by obtain⟨rows,p1,p2⟩:=a.aH;have hl:=kM p2;simp only[Vg]at hl;rw[p1.aF,hl]
theorem fW.aW (a:fW Λ h nb w v){i:Nat}(hi:i<v.aA.length):∃n0 j row g d,jg 3 w.dv (.aA .i64 i)=some (.aC n0 3 j 0)/\h[n0]?=some (some (.aA 3 row g))/\row[j]?=some [.aA .i64 v.aA[i].aA,.aA .i64 v.aA[i].aD,d]/\Rd (Zs Λ h) h (gq v.aA[i].aC) d/\Λ n0=106:=by obtain⟨rows,p1,p2⟩:=a.aI;have hl:=kM p2;simp only[Vg]at hl;obtain⟨n0,off,row,g,e1,e2,e3,e4,f⟩:=p1.at (i:=i) (by omega);obtain⟨cs,c1,c2⟩:=sG p2 i (v.aA[i].c) (by rw[VE,U0 hi];rfl);rw[U0 (by omega)]at c1;injection c1 with c1;simp only[fU.c,fu,Rd]at c2;obtain⟨_,_,rfl,rfl,_,_,rfl,rfl,d,_,rfl,hd,rfl⟩:=c2;exact⟨n0,off+i,row,g,d,e1,e3,by rw[e4,c1],hd,e2⟩
theorem fW.aT (a:fW Λ h nb w v):ik w.dv=some (.aA .i64 v.aA.length):=by obtain⟨rows,p1,p2⟩:=a.aI;have hl:=kM p2;simp only[Vg]at hl;rw[p1.aF,hl]
theorem NJ {F:Nat->Prop}{b:AV}{l:List Int}(c:gC F h 1 b (hU l)):ik b=some (.aA .i64 l.length):=by rw[c.aF];simp[hU]
theorem Cr {F:Nat->Prop}{b:AV}{l:List Int}(c:gC F h 1 b (hU l)){i:Nat}(hi:i<l.length):∃n0 j row g,jg 1 b (.aA .i64 i)=some (.aC n0 1 j 0)/\F n0/\h[n0]?=some (some (.aA 1 row g))/\row[j]?=some [.aA .i64 l[i]]:=by obtain⟨n0,off,row,g,e1,e2,e3,e4,-⟩:=c.at (i:=i) (by simpa [hU] using hi);exact⟨n0,off+i,row,g,e1,e2,e3,by rw[e4];simp[hU]⟩
theorem fW.a_ (a:fW Λ h nb w v){k:Nat}(hk:k<v.l.length){r2:Nat}{R:fj}(hx:eW eZ h h')(h2:h.length<=r2)(hm:iI (λm=>if m=r2 then 6 else 0) h' r2 R):
  ∃n0 j row g,jg 1 w.lv (.aA .i64 k)=some (.aC n0 1 j 0)/\h'[n0]?=some (some (.aA 1 row g))/\(∃r,row[j]?=some [.aC r 21 0 0])/\n0≠nb/\n0<h.length/\Λ n0≠0/\∃Λ',gy Λ h Λ' (h'.set n0 (some (.aA 1 (row.set j [.aC r2 21 0 0]) g)))/\fW Λ' (h'.set n0 (some (.aA 1 (row.set j [.aC r2 21 0 0]) g))) nb {w with rs:=w.rs.set k r2} {v with l:=v.l.set k R}:=by
 have a2:=a.up hx;have hl:=hx.1;obtain⟨n0,j,row,g,r,e1,e2,e3,e4,e5,e6,e7,e8,f⟩:=a2.aG hk;have k5:k<5:=by have:=a.aE;omega
 have W:n0<h.length:=Vb λy=>by have:=a.aD (m:=n0) (by omega);omega
 have C:=(hm.aA r2 (by simp)).1;obtain⟨Λ',hΛ⟩:∃Λ':Nat->Nat,Λ'=λm=>if m=r2 then 10*(k+1)+6 else Λ m:=⟨_,rfl⟩
 have old:∀m,m≠r2->Λ' m=Λ m:=λm hm=>by rw[hΛ];exact U6 hm
 have new:Λ' r2=10*(k+1)+6:=by rw[hΛ];exact U4 rfl
 have hs:∀m,m≠n0->(h'.set n0 (some (.aA 1 (row.set j [.aC r2 21 0 0]) g)))[m]?=h'[m]?:=λm hm=>UZ (λy=>hm y.symm);have len:(h'.set n0 (some (.aA 1 (row.set j [.aC r2 21 0 0]) g))).length=h'.length:=U9;have sm:gy Λ h Λ' (h'.set n0 (some (.aA 1 (row.set j [.aC r2 21 0 0]) g))):=⟨by rw[len];exact hl,λm hm=>old m (by omega),λm hm z=>(hs m (λy=>by rw[y]at z;omega)).trans (hx.2 m hm (λy=>y)),λm hm z=>(hs m (λy=>by rw[y]at z;omega)).trans (hx.2 m hm (λy=>y))⟩;have sm2:∀m,Λ m=0->m≠r2->Λ' m=0:=λm z c=>(old m c).trans z;have cc:∀{i sz:Nat}{b:AV} {es:List (List AV)},i≠102->100<=i->gC (λm=>Λ m=i) h' sz b es->gC (λm=>Λ' m=i) (h'.set n0 (some (.aA 1 (row.set j [.aC r2 21 0 0]) g))) sz b es:=λhi h1 c=>c.aA (λm hm hlt=>by
  have u:Λ m=_:=hm;have:m≠r2:=λy=>by rw[y,a.aD h2]at u;omega
  exact (old m this).trans hm) (λm hm hlt=>hs m (λy=>by have u:Λ m=_:=hm;rw[y,e8]at u;omega))
 have rr:∀{ds rows},fY (Zs Λ h) h ds rows->fY (Zs Λ' (h'.set n0 (some (.aA 1 (row.set j [.aC r2 21 0 0]) g)))) (h'.set n0 (some (.aA 1 (row.set j [.aC r2 21 0 0]) g))) ds rows:=λc=>fY.aA sm.zs sm.kz _ _ c;obtain⟨hr,h1,_⟩:=a2.aJ;obtain⟨Z,a3,a1⟩:=a.aJ;obtain⟨M,U,O⟩:=a.aH;obtain⟨a4,a6,a5⟩:=a.aI;have up:∀{i sz:Nat}{b:AV} {es:List (List AV)},gC (λm=>Λ m=i) h sz b es->gC (λm=>Λ m=i) h' sz b es:=λc=>c.aA (λ_ y _=>y) (λm _ hlt=>hx.2 m hlt (λy=>y));refine⟨n0,j,row,g,e1,e2,⟨r,e3⟩,e6,W,by omega,Λ',sm,λm u=>?_,(old nb (λy=>by have:=a.lt nb (by rw[a.aC];omega);omega)).trans a.aC,(hs nb (λy=>e6 y.symm)).trans a2.aA,⟨by rw[U9,U9];exact a.aE.1,by rw[U9];exact a.aE.2⟩,?_,λi i1 i2=>?_,⟨Z,cc (by omega) (by omega) (up a3),rr a1⟩,cc (by omega) (by omega) (up a.aL),⟨M,cc (by omega) (by omega) (up U),rr O⟩,⟨a4,cc (by omega) (by omega) (up a6),rr a5⟩,cc (by omega) (by omega) (up a.aN),cc (by omega) (by omega) (up a.aK),cc (by omega) (by omega) (up a.aM)⟩
 ·rw[len];by_cases c:m=r2;·rw[c];exact C
  ·rw[old m c]at u;exact Vj (a.lt m u) hl
 ·have:=f [.aC r2 21 0 0];rw[Xi];exact this.aA (λm hm hlt=>by
   have u:Λ m=102:=hm;have:m≠r2:=λy=>by rw[y,a.aD h2]at u;omega
   exact (old m this).trans hm) (λ_ _ _=>rfl)
 ·have E:i<v.l.length:=by simpa using i2
  have I:i<w.rs.length:=by simpa using i1
  have gs:(v.l.set k R)[i]'i2=if k=i then R else v.l[i]:=List.getElem_set i2
  have gr:(w.rs.set k r2)[i]'i1=if k=i then r2 else w.rs[i]:=List.getElem_set i1
  rw[gs,gr];by_cases c:k=i
  ·subst c;rw[U4 rfl,U4 rfl];obtain⟨⟨gg,ff,ra⟩,lab⟩:=hm;have pk:gB k Λ' r2=6:=by unfold gB;rw[new,U4 (by omega)];omega
   have no:∀q m,q≠0->q≠6->(if m=r2 then 6 else 0)=q->False:=λq m h0 h6 e=>by split at e<;>omega
   have nr:r2≠n0:=by omega
   refine⟨⟨gg,ff,(hs r2 nr).trans ra.aA,eY.aC _ (λm e=>(no 1 m (by omega) (by omega) e).elim) (λm e=>(no 1 m (by omega) (by omega) e).elim) _ ra.go,ra.gc.aA ra.go (λm e=>(no 1 m (by omega) (by omega) e).elim),eY.aC _ (λm e=>(no 2 m (by omega) (by omega) e).elim) (λm e=>(no 2 m (by omega) (by omega) e).elim) _ ra.fo,ra.fc.aA ra.fo (λm e=>(no 2 m (by omega) (by omega) e).elim),pk⟩,λm u=>?_⟩;rw[len];by_cases c2:m=r2;·rw[c2,pk];exact⟨C,.inr (.inr rfl)⟩
   ·have e:gB k Λ' m=gB k Λ m:=by unfold gB;rw[old m c2]
    rw[e]at u ⊢;have:=(a.aF k I E).aA m u;exact⟨by omega,this.2⟩
  ·rw[U6 c,U6 c];have e:gB i Λ'=gB i Λ:=by
    funext m
    by_cases c2:m=r2
    ·rw[c2];unfold gB;rw[new,a.aD h2,U6 (by omega)];simp
    ·unfold gB;rw[old m c2]
   rw[e];have m0:=a2.aF i I E;refine m0.aC (by rw[len];exact U8 _) (λm u=>hs m (λy=>?_));unfold gB at u;rw[y,e8]at u;have:i<5:=by have:=a.aE;omega
   split at u;·omega
   ·exact absurd rfl u
end
theorem xJ {row:List (List AV)}{j:Nat}{o x:AV} (h:row[j]?=some [o]):(row.modify j λc=>c.set 0 x)=row.set j [x]:=by
 obtain⟨hj,e⟩:=UY.1 h;apply VM;intro i;rw[WO,Wl];by_cases c:j=i;·subst c;rw[U4 rfl,U4 hj,U0 hj,e];simp
 ·rw[U6 c];cases row[i]?<;>simp[c]
structure DH (v:i9)(k n:Nat)(ap D':List fU)(fst:Int)(rst:Bool):Prop where
 k5:k<5/\v.aC.length=5/\v.aD.length=5
 n0:∀(h1:k<v.aD.length)(h2:k<v.aC.length),(n:Int)=if rst=true then v.aD[k].aA.aA else v.aC[k]
 le:n<=v.aA.length
 aC:ap≠[]->fst=n+1
 aF:v.aA<+:D'
 aD:∀i,i<ap.length->D'[n+i]?=ap[i]?
 aE:D'.length=max v.aA.length (n+ap.length)/\D'.length<=2^29
 aA:∀e∈ap,e.aC.length<=2^40
 aG:v.aE.length=v.aA.length
def yp (P:Program)(f:FuncId):Prop:=fK P f=true/\∀(Λ:Nat->Nat)(h:eX)(nb:Nat)(w:f_)(v:i9)(k n:Nat)(term:Int)(ma ca aa:AV)(ap D':List fU)(fst:Int)(rst:Bool),fW Λ h nb w v->DH v k n ap D' fst rst->
 Rd (Zs Λ h) h (gK ap) aa->ma.aH=true->ca.aH=true->
 fC P f [.aC nb 9 0 0,.aA .i64 k,.aA .i64 term,.aF [ma,ca,aa,.aA .i64 fst,.aE rst]] h λ_ h'=>∃Λ' w',gy Λ h Λ' h'/\w'.rs=w.rs/\fW Λ' h' nb w' {v with aC:=v.aC.set k ((n+ap.length:Nat):Int),aA:=D',aE:=v.aE++List.replicate (D'.length-v.aA.length) term}
def ja (D D':List fU)(m:Nat):List fU:=if m<=D.length then D else D'.take m
theorem Md {D D':List fU}{m:Nat}(pre:D<+:D')(hm:m<D'.length)(h:D.length<=m):ja D D' m++[D'[m]]=ja D D' (m+1)/\(ja D D' m).length=m:=by
 have e:ja D D' m=D'.take m:=by
  unfold ja;split
  ·have:m=D.length:=by omega
   subst this;obtain⟨t,rfl⟩:=pre;simp
  ·rfl
 rw[e];have e2:ja D D' (m+1)=D'.take (m+1):=by unfold ja;rw[U6 (by omega)]
 rw[e2,VA hm];exact⟨rfl,by simp;omega⟩
theorem Km {P:Program}{g:FuncId}(u:sI P g){Λ:Nat->Nat}{h:eX}{nb b:Nat}{w:f_}{v:i9}{k n:Nat}{term fst:Int}{ma ca aa:AV}{ak:Bool}{ap D':List fU}{L:fX}{K:AX->St->Prop}(a:fW Λ h nb w v)
  (k0:lk 0 L=.aC nb 9 0 0) (k1:lk 1 L=.aA .i64 k) (k2:lk 2 L=.aA .i64 term) (k7:lk 7 L=.aC b 5 0 0) (k8:lk 8 L=.aA .i64 (0:Int)) (hB:h[b]?=some (some (.aA 5 [[ma,ca,aa,.aA .i64 fst,.aE ak]] false))) (ad:Λ b=0) (sm:ma.aH=true) (sc:ca.aH=true) (ra:Rd (Zs Λ h) h (gK ap) aa) (ar:ik aa=some (.aA .i64 ap.length))
  (hk:k<5/\v.aC.length=5) (aw:∀hh:k<v.aC.length,v.aC[k]=(n:Int)) (ao:n<=v.aA.length) (pre:v.aA<+:D') (ax:∀i,i<ap.length->D'[n+i]?=ap[i]?) (hlen:D'.length=max v.aA.length (n+ap.length)/\D'.length<=2^29) (a4:∀e∈ap,e.aC.length<=2^40) (hth:v.aE.length=v.aA.length)
  (hK:∀Lv h' Λ' w',gy Λ h Λ' h'->w'.rs=w.rs->fW Λ' h' nb w' {v with aC:=v.aC.set k ((n+ap.length:Nat):Int),aA:=D',aE:=v.aE++List.replicate (D'.length-v.aA.length) term}->K (.aD 0) ⟨Lv,[],h'⟩):
  vc P (.aD (wY g)) ⟨L,[],h⟩ K:=by
 have a3:=(UY.1 hB).1;obtain⟨I,hI⟩:∃I:Nat->fX->eX->Prop,∀m Lv h',I m Lv h'↔∃(i:Nat)(Λ':Nat->Nat)(w':f_),(lk 0 Lv=.aC nb 9 0 0/\lk 1 Lv=.aA .i64 k/\lk 2 Lv=.aA .i64 term/\lk 7 Lv=.aC b 5 0 0/\lk 8 Lv=.aA .i64 (i:Int))/\gy Λ h Λ' h'/\w'.rs=w.rs /\
   fW Λ' h' nb w' {v with aC:=v.aC.set k ((n+i:Nat):Int),aA:=ja v.aA D' (n+i),aE:=v.aE++List.replicate ((ja v.aA D' (n+i)).length-v.aA.length) term}/\i<=ap.length/\m=ap.length-i:=⟨_,λ_ _ _=>WA⟩
 have d0:ja v.aA D' n=v.aA:=by unfold ja;rw[U4 ao]
 refine iM I ap.length ((hI _ _ _).2 ⟨0,Λ,w,⟨k0,k1,k2,k7,by simpa using k8⟩,gy.aF _ _,rfl,?_,by omega,by omega⟩) ?_
 ·have e:=aw (by omega);have:({v with aC:=v.aC.set k ((n+0:Nat):Int),aA:=ja v.aA D' (n+0),aE:=v.aE++List.replicate ((ja v.aA D' (n+0)).length-v.aA.length) term}:i9)=v:=by rw[WK,d0,Xp,List.replicate_zero,VY,<-e,WZ]
  rw[this];exact a
 intro m Lv h1 hh;obtain⟨i,Λ1,w1,⟨k0,k1,k2,k7,k8⟩,s1,wr,a1,hi,rfl⟩:=(hI _ _ _).1 hh;clear hh;have B1:=(s1.z b a3 ad).trans hB;have z1:=(s1.aC b a3).trans ad;have a9:=s1.rd ra;simp only[wY,go_sem,k7,k8,B1,ar];refine ij (λci=>?_) (λci=>?_)
 ·simp at ci;have ci:i<ap.length:=by omega
  have U:=a1.aA;simp only[f_.aA]at U;obtain⟨bn,bj,Z,bg,j1,j2,j3,j4,j5,j6,j7⟩:=a1.aQ (k:=k) (by simp;omega);have au:Z[bj]?=some [.aA .i64 ((n+i:Nat):Int)]:=by rw[j3];simp
  have dl:=a1.aT;simp only at dl;have dlen:(ja v.aA D' (n+i)).length=max v.aA.length (n+i):=by
   unfold ja;split;·omega
   ·simp only[Va];omega
  have b7:¬(((ja v.aA D' (n+i)).length:Int)<((n+i:Nat):Int)):=by omega
  have ac:n+i<D'.length:=by omega
  simp only[go_sem,k0,k1,U,j1,j2,au,dl,U2 b7];have b0:IntKind.i64.wrap ((i:Int)+1)=((i+1:Nat):Int):=by rw[gj (by omega)];omega
  have ay:IntKind.i64.wrap (((n+i:Nat):Int)+1)=((n+(i+1):Nat):Int):=by rw[gj (by omega)];omega
  obtain⟨p,cs,q1,q2,q3⟩:=Rd.aD a9 .i64 (i:=(i:Int)) (d:=(ap[i]).c) (by omega) (by rw[show ((i:Int)).toNat=i by omega,VE,U0 ci];rfl);have ab:=q3;simp only[fU.c,fu,Rd]at q3;obtain⟨_,_,rfl,rfl,_,_,rfl,rfl,d,_,rfl,qd,rfl⟩:=q3;have C:=ax i ci;have b6:=a4 _ (Vx ci);have a6:(ap.map fU.c)[i]?=some (ap[i]).c:=by rw[VE,U0 ci];rfl
  rw[U0 ac,U0 ci]at C;injection C with C;generalize ap[i]=en at *;have b9:ir h1 true 3 p=some (.aF [.aA .i64 en.aA,.aA .i64 en.aD,d]):=by rw[jr q2];rfl
  have ah:∀x,ir (h1++[x]) true 3 p=some (.aF [.aA .i64 en.aA,.aA .i64 en.aD,d]):=λx=>by rw[jr (rQ q2 (eW.b1 x))];rfl
  have sd:=qd.aA;refine IS (λs=>∃L2 H2 Λ2 w2,s=⟨L2,[],H2⟩/\(lk 0 L2=.aC nb 9 0 0/\lk 1 L2=.aA .i64 k/\lk 2 L2=.aA .i64 term/\lk 7 L2=.aC b 5 0 0/\lk 8 L2=.aA .i64 (i:Int)/\lk 9 L2=.aA .i64 ((n+i:Nat):Int))/\gy Λ1 h1 Λ2 H2/\w2.rs=w.rs /\
   fW Λ2 H2 nb w2 {v with aC:=v.aC.set k ((n+i:Nat):Int),aA:=ja v.aA D' (n+(i+1)),aE:=v.aE++List.replicate ((ja v.aA D' (n+(i+1))).length-v.aA.length) term}) ?_ ?_
  ·by_cases ce:v.aA.length<=n+i
   ·have a7:(((n+i:Nat):Int))=(ja v.aA D' (n+i)).length:=by omega
    obtain⟨ag,ds2⟩:=Md pre ac ce;have nbl:=(UY.1 a1.aA).1;have R1:∀x,(h1++[x])[nb]?=_:=λx=>(eW.b1 x).aA U;have ai:∀x,(h1++[x])[b]?=_:=λx=>(eW.b1 x).aA B1;have N1:∀sz i o,gN h1.length 1 (.aC nb sz i o)=true:=λsz i o=>ig (by omega);have N2:∀sz i o,gN h1.length 1 (.aC b sz i o)=true:=λsz i o=>ig (by have:=(UY.1 B1).1;omega);simp only[go_sem,jh,k0,k7,k8,R1,ai,U3 a7,q1,ah,sd,N1,N2];refine⟨Hj q2 _,?_⟩;have ae:=lG h1 3 [[AV.aA IntKind.i64 en.aA,AV.aA IntKind.i64 en.aD,d]] false (some 1) (len:=1) rfl;have X2:eW eZ h1 (h1++[some (e_.aA 3 [[AV.aA IntKind.i64 en.aA,AV.aA IntKind.i64 en.aD,d]] false)]):=eW.b1 _;obtain⟨x',h3,e1,sx,n3,aq,Λ2,t1,t2⟩:=a1.bu X2 (en:=en) ((gy.up X2:gy Λ1 h1 Λ1 _).aE ab) (by simp only;omega) (bytes:=40) (by decide);rw[<-iv ae]at e1;simp only[f_.aA]at n3 t1 t2;obtain⟨H3,a5⟩:∃H3,H3=h3.set nb (some (e_.aA 9 [[w1.lv,w1.hv,w1.av,w1.pv,x',w1.tv,w1.ev,w1.qv,.aE false]] false)):=⟨_,rfl⟩;rw[<-a5]at t1 t2;simp only[go_sem,e1,sx,gz sx,n3,jh,<-a5,k0];have M:=t2.aA;simp only[f_.aA]at M;clear a5 e1 ae ab q2 n3 aq R1 ai N1 N2 ah b9;have ae:=lG H3 1 [[AV.aA IntKind.i64 term]] false (some 1) (len:=1) rfl;have X4:eW eZ H3 (H3++[some (e_.aA 1 [[AV.aA IntKind.i64 term]] false)]):=eW.b1 _;have R4:(H3++[some (e_.aA 1 [[AV.aA IntKind.i64 term]] false)])[nb]?=_:=X4.aA M;obtain⟨x4,h4,e4,a8,n4,nl4,Λ4,u1,u2⟩:=t2.bB X4 term (by simp only[U1,Wo];omega);rw[<-iv ae]at e4;simp only[f_.aA]at n4 u1 u2;obtain⟨H4,af⟩:∃H4,H4=h4.set nb (some (e_.aA 9 [[w1.lv,w1.hv,w1.av,w1.pv,x',x4,w1.ev,w1.qv,.aE false]] false)):=⟨_,rfl⟩;rw[<-af]at u1 u2;simp only[go_sem,k2,M,e4,a8,gz a8,n4,<-af];refine⟨_,_,Λ4,{w1 with dv:=x',tv:=x4},rfl,⟨by simp[fm,k0],by simp[fm,k1],by simp[fm,k2],by simp[fm,k7],by simp[fm,k8],by simp[fm]⟩,t1.aA u1,wr,?_⟩;have e5:(ja v.aA D' (n+(i+1))).length-v.aA.length=((ja v.aA D' (n+i)).length-v.aA.length)+1:=by
     have:(ja v.aA D' (n+(i+1))).length=(ja v.aA D' (n+i)).length+1:=by rw[show n+(i+1)=n+i+1 by omega,<-ag];simp
     omega
    rw[e5,List.replicate_succ',<-Vr,show n+(i+1)=n+i+1 by omega,<-ag,C];exact u2
   ·have a7:¬(((n+i:Nat):Int))=(ja v.aA D' (n+i)).length:=by omega
    simp only[go_sem,U2 a7];have e5:ja v.aA D' (n+(i+1))=ja v.aA D' (n+i):=by unfold ja;rw[U4 (by omega),U4 (by omega)]
    refine⟨_,_,Λ1,_,rfl,⟨by simp[fm,k0],by simp[fm,k1],by simp[fm,k2],by simp[fm,k7],by simp[fm,k8],by simp[fm]⟩,gy.aF _ _,wr,?_⟩;rw[e5];exact a1
  ·rintro s ⟨L2,H2,Λ2,w2,rfl,⟨k0,k1,k2,k7,k8,k9⟩,s2,aj,a2⟩;have O:=a2.aA;simp only[f_.aA]at O;have b5:=a2.aT;simp only at b5;have B2:=(s2.z b (by have:=s1.aD;omega) z1).trans B1;have E:n+i<(ja v.aA D' (n+(i+1))).length:=by
    unfold ja;split;·omega
    ·simp only[Va];omega
   have ed:(ja v.aA D' (n+(i+1)))[n+i]=en:=by
    rw[<-C];unfold ja at E ⊢;split;·rename_i c;obtain⟨t,rfl⟩:=pre;rw[Wn]
    ·simp only[Wm]
   obtain⟨nd,jd,drow,dg,d2,g1,g2,g3,g4,g5⟩:=a2.aW (i:=n+i) E;simp only[ed]at g3 g4;have jdl:=(UY.1 g3).1;have al:=s2.rd a9;obtain⟨p2,cs2,an,am,W⟩:=Rd.aD al .i64 (i:=(i:Int)) (d:=en.c) (by omega) (by rw[show ((i:Int)).toNat=i by omega];exact a6);have q5:=W;simp only[fU.c,fu,Rd]at W;obtain⟨_,_,rfl,rfl,_,_,rfl,rfl,d3,_,rfl,qd3,rfl⟩:=W;have LD:ir H2 true 3 p2=some (.aF [.aA .i64 en.aA,.aA .i64 en.aD,d3]):=by rw[jr am];rfl
   have q4:fu (Zs Λ2 H2) H2 en.c [.aA .i64 en.aA,.aA .i64 en.aD,d2]:=by simp only[fU.c,fu,Rd];exact⟨_,_,rfl,rfl,_,_,rfl,rfl,d2,_,rfl,g4,rfl⟩
   have GD:ir H2 true 3 (.aC nd 3 jd 0)=some (.aF [.aA .i64 en.aA,.aA .i64 en.aD,d2]):=by simp only[go_sem,g2,g3]
   simp only[go_sem,k0,k7,k8,k9,O,B2,g1,g2,g3,an,LD];refine fy ⟨u.1,u.2 _ H2 en en _ _ q4 q5 b6⟩ ?_;rintro _ h9 ⟨rfl,e9⟩;rw[e9];clear e9 h9;obtain⟨bn,bj,Z,bg,j1,j2,j3,j4,j5,j6,j7⟩:=a2.aQ (k:=k) (by simp;omega);obtain⟨Λ3,t1,t2⟩:=j7 ((n+(i+1):Nat):Int);have b8:=(UY.1 j3).1;simp only[go_sem,k0,k1,k8,k9,O,B2,LD,GD,j1,j2,b8,xJ j3,ay,b0];refine⟨_,by omega,(hI _ _ _).2 ⟨i+1,Λ3,w2,⟨by simp[fm,k0],by simp[fm,k1],by simp[fm,k2],by simp[fm,k7],by simp[fm]⟩,(s1.aA s2).aA t1,aj,?_,by omega,rfl⟩⟩;simp only[VX]at t2;exact t2
 ·simp at ci;have:i=ap.length:=by omega
  subst this;simp only[go_sem];refine hK _ _ Λ1 w1 s1 wr ?_;have e:ja v.aA D' (n+ap.length)=D':=by
   unfold ja;split;·exact List.IsPrefix.eq_of_length pre (by omega)
   ·exact Vs (by omega)
  rw[e]at a1;exact a1
theorem Ko {P:Program}{f g:FuncId}(hf:Is P f (Ah g))(u:sI P g):yp P f:=by
 refine⟨hf.2,λΛ h nb w v k n term ma ca aa ap D' fst I a ac ra sm sc=>fS hf ?_⟩;obtain⟨⟨k5,kA,kH⟩,n0,a6,U,pre,a9,⟨O,Z⟩,W,a8⟩:=ac;obtain⟨H,hH⟩:∃H,H=h++[some (e_.aA 5 [[ma,ca,aa,.aA .i64 fst,.aE I]] false)]:=⟨_,rfl⟩;have X1:eW eZ h H:=by rw[hH];exact eW.b1 _
 have B1:H[h.length]?=some (some (e_.aA 5 [[ma,ca,aa,.aA .i64 fst,.aE I]] false)):=by rw[hH];exact gJ _ _
 have a1:=a.up X1;have s1:gy Λ h Λ H:=gy.up X1;have ra1:=s1.rd ra;have z0:Λ h.length=0:=a.aD (U8 _);have sa:=ra.aA;have M:ik aa=some (.aA .i64 ap.length):=by have:=ra.aC;simpa [gK] using this
 have C:=a1.aA;simp only[f_.aA]at C;have hl:H.length=h.length+1:=by rw[hH];simp
 obtain⟨hn,hj,hrow,hg,hx,hy,i1,i2,i3,i4,i5,i6,i7,-⟩:=a1.aR (k:=k) (by omega);obtain⟨an,aj,arow,ag,j1,j2,j3,j4,j5,j6,j7⟩:=a1.aQ (k:=k) (by omega);simp only[Ah,go_sem,sm,sc,sa];rw[<-hH];clear hH;simp only[jf.c,iQ,fu]at i4;obtain⟨hx',_,e1,rh,hy',_,e2,-⟩:=i4;injection e1 with e1 e1';subst e1;obtain⟨p,cs,q1,q2,q3⟩:=Rd.aD rh .i64 (i:=(0:Int)) (d:=v.aD[k].c) (by omega) rfl;obtain⟨he,ho,hnn,hll,hss,rfl,-⟩:=lO q3;refine IS (λs=>∃L1 H2 Λ2,s=⟨L1,[],H2⟩/\(lk 0 L1=.aC nb 9 0 0/\lk 1 L1=.aA .i64 k/\lk 2 L1=.aA .i64 term/\lk 7 L1=.aC h.length 5 0 0)/\gy Λ h Λ2 H2/\gy Λ H Λ2 H2/\fW Λ2 H2 nb w {v with aC:=v.aC.set k (n:Int)}) ?_ ?_
 ·cases I
  ·simp only[go_sem];have e:v.aC.set k (n:Int)=v.aC:=by have:=n0 (by omega) (by omega);simp only[Vn,VI]at this;rw[this,WZ]
   exact⟨_,_,Λ,rfl,⟨by simp[fm,g_],by simp[fm,g_],by simp[fm,g_],by simp[fm]⟩,s1,gy.aF _ _,by rw[e];exact a1⟩
  ·have f1:=mN q2 3;have f2:=mN (vz q2 3) 0;have f3:ir H false 1 (oh 0 (oh 3 p))=some (.aA .i64 v.aD[k].aA.aA):=by rw[nh (vz q2 3) 0];rfl
   have ab:=(UY.1 j3).1;simp only[go_sem,C,i1,i2,i3,q1,f1,f2,f3,j1,j2,ab];obtain⟨Λ2,t1,t2⟩:=j7 v.aD[k].aA.aA;have e:=n0 (by omega) (by omega);simp only[VS]at e;rw[xJ j3];exact⟨_,_,Λ2,rfl,⟨by simp[fm,g_],by simp[fm,g_],by simp[fm,g_],by simp[fm]⟩,s1.aA t1,t1,by rw[e];exact t2⟩
 ·rintro s ⟨L1,H2,Λ2,rfl,⟨k0,k1,k2,k7⟩,s2,a4,a2⟩;have E:=a2.aA;simp only[f_.aA]at E;have B2:=(a4.z h.length (by omega) z0).trans B1;have z2:=(a4.aC h.length (by omega)).trans z0;have a5:=s2.rd ra;clear j7 i7 j2 j3 C a1 B1 i2 i3 q1 q2 q3 rh;obtain⟨bn,bj,a3,bg,j1,j2,j3,j4,j5,j6,-⟩:=a2.aQ (k:=k) (by simp;omega);have a7:a3[bj]?=some [.aA .i64 (n:Int)]:=by rw[j3];simp
  have ew:IntKind.i64.wrap ((n:Int)+1)=n+1:=gj (by omega);have fin:∀Lv:fX,lk 0 Lv=.aC nb 9 0 0->lk 1 Lv=.aA .i64 k->lk 2 Lv=.aA .i64 term->lk 7 Lv=.aC h.length 5 0 0->lk 8 Lv=.aA .i64 (0:Int)->vc P (.aD (wY g)) ⟨Lv,[],H2⟩ (vf 0 (iE [] λ_ h'=>∃Λ' w',gy Λ h Λ' h'/\w'.rs=w.rs/\fW Λ' h' nb w' {v with aC:=v.aC.set k ((n+ap.length:Nat):Int),aA:=D',aE:=v.aE++List.replicate (D'.length-v.aA.length) term})):=by
   intro Lv e0 e1 e2 e7 e8;refine Km u a2 (n:=n) (ap:=ap) (D':=D') e0 e1 e2 e7 e8 B2 z2 sm sc a5 M ⟨k5,by simp;omega⟩ (by intro hh;simp) a6 pre a9 ⟨O,Z⟩ W a8 (λLw h3 Λ3 w3 t1 t2 t3=>?_);simp only[go_sem];refine⟨Λ3,w3,s2.aA t1,t2,?_⟩;have e:{({v with aC:=v.aC.set k (n:Int)}:i9) with aC:=(v.aC.set k (n:Int)).set k ((n+ap.length:Nat):Int),aA:=D',aE:=v.aE++List.replicate (D'.length-v.aA.length) term}={v with aC:=v.aC.set k ((n+ap.length:Nat):Int),aA:=D',aE:=v.aE++List.replicate (D'.length-v.aA.length) term}:=by simp only[VX]
   rw[<-e];exact t3
  by_cases ca0:ap=[]
  ·have c0:¬((0:Int)<ap.length):=by rw[ca0];simp
   simp only[go_sem,k7,B2,M,U2 c0];exact fin _ (by simp[fm,k0]) (by simp[fm,k1]) (by simp[fm,k2]) (by simp[fm,k7]) (by simp[fm])
  ·have c0:(0:Int)<ap.length:=by have:=W9.2 ca0;omega
   have c1:=U ca0;simp only[go_sem,k0,k1,k7,E,B2,M,U3 c0,j1,j2,a7,ew,U3 c1,VF];exact fin _ (by simp[fm,k0]) (by simp[fm,k1]) (by simp[fm,k2]) (by simp[fm,k7]) (by simp[fm])
structure yM (v:i9)(who:Int)(x:fF):Prop where
 aE:∀(i:Nat) t j,v.aF[i]?=some t->v.aH[i]?=some j->t=x.aC->j=who
 aD:∀(n:Nat) e,x.aA.aA<=n->v.aA[n]?=some e->∀t,v.aE[n]?=some t->t<x.aC->x.aA.aJ (n+1) 1=[e]
 ok:jL x.aA
 aA:v.aH.length=v.aF.length/\v.aF.length<=2^29
 aC:v.aE.length=v.aA.length/\v.aA.length<=2^29
def yN (P:Program)(f:FuncId):Prop:=fK P f=true/\∀(Λ:Nat->Nat)(h:eX)(nb:Nat)(w:f_)(v:i9)(who:Int)(x:fF)(cs:List AV),fW Λ h nb w v->yM v who x->fu (Zs Λ h) h x.c cs->
 fC P f [.aC nb 9 0 0,.aA .i64 who,.aF cs] h λ_ h'=>∃Λ' w',gy Λ h Λ' h'/\w'.rs=w.rs/\fW Λ' h' nb w' {v with aF:=if x.aC∈v.aF then v.aF else v.aF++[x.aC],aH:=if x.aC∈v.aF then v.aH else v.aH++[who]}
theorem OF {P:Program}{s g:FuncId}{Λ:Nat->Nat}{H:eX}{nb b:Nat}{w:f_}{v:i9}{who:Int}{x:fF}{e o n l d:AV}{L:fX}{K:AX->St->Prop}(a:fW Λ H nb w v)
  (k0:lk 0 L=.aC nb 9 0 0) (k1:lk 1 L=.aA .i64 who) (k5:lk 5 L=.aC b 10 0 0) (k6:lk 6 L=.aA .i64 (0:Int)) (hB:H[b]?=some (some (.aA 10 [x.aH e o n l d] false))) (ai:yM v who x)
  (E:∀Lv,x.aC∉v.aF->lk 0 Lv=.aC nb 9 0 0->lk 1 Lv=.aA .i64 who->lk 5 Lv=.aC b 10 0 0->K (.aD 0) ⟨Lv,[],H⟩)
  (C:∀Lv,x.aC∈v.aF->K .aC ⟨Lv,[],H⟩):vc P (.aD (Ak s g)) ⟨L,[],H⟩ K:=by
 obtain⟨I,hI⟩:∃I:Nat->fX->eX->Prop,∀m Lv h',I m Lv h'↔∃i:Nat,(lk 0 Lv=.aC nb 9 0 0/\lk 1 Lv=.aA .i64 who/\lk 5 Lv=.aC b 10 0 0/\lk 6 Lv=.aA .i64 (i:Int))/\h'=H/\(∀j,j<i->v.aF[j]?≠some x.aC)/\i<=v.aF.length/\m=v.aF.length-i:=⟨_,λ_ _ _=>WA⟩;refine iM I v.aF.length ((hI _ _ _).2 ⟨0,⟨k0,k1,k5,by simpa using k6⟩,rfl,λj hj=>by omega,by omega,by omega⟩) ?_;intro m Lv h1 hh;obtain⟨i,⟨k0,k1,k5,k6⟩,rfl,hn,hi,rfl⟩:=(hI _ _ _).1 hh;clear hh;have u:=a.aA;simp only[f_.aA]at u;have tl:=NJ a.aK;obtain⟨led,-,-,⟨ll,l29⟩,-⟩:=ai;simp only[fF.aH]at hB;simp only[Ak,go_sem,k0,k6,u,tl];refine ij (λci=>?_) (λci=>?_)
 ·simp at ci;have ci:i<v.aF.length:=by omega
  have M:IntKind.i64.wrap ((i:Int)+1)=((i+1:Nat):Int):=by rw[gj (by omega)];omega
  obtain⟨n1,j1,r1,g1,e1,-,e3,e4⟩:=Cr a.aK ci;have el:=(UY.1 e4).1;obtain⟨n2,j2,r2,g2,f1,-,f3,f4⟩:=Cr a.aM (i:=i) (by omega);have fl:=(UY.1 f4).1;simp only[go_sem,k0,k5,k6,u,hB,e1,e3,e4];refine ij (λc=>?_) (λc=>?_)
  ·simp at c;have e:=led i _ _ (U0 ci) (U0 (by omega)) c;have hs:h1.set nb (some (.aA 9 [[w.lv,w.hv,w.av,w.pv,w.dv,w.tv,w.ev,w.qv,.aE false]] false))=h1:=by have nbl:=(UY.1 u).1;have e2:=(UY.1 u).2;rw[<-e2];exact WZ _
   simp only[go_sem,k0,k1,k6,u,f1,f3,f4,e,hs];exact C _ (by rw[<-c];exact Vx _)
  ·simp at c;simp only[go_sem,k6,M];refine⟨_,by omega,(hI _ _ _).2 ⟨i+1,⟨by simp[fm,k0],by simp[fm,k1],by simp[fm,k5],by simp[fm]⟩,rfl,λj hj=>?_,by omega,rfl⟩⟩;by_cases c2:j=i;·subst c2;rw[U0 ci];simpa using c
   ·exact hn j (by omega)
 ·simp at ci;simp only[go_sem];refine E _ (λhm=>?_) (by simp[fm,k0]) (by simp[fm,k1]) (by simp[fm,k5]);obtain⟨j,hj,e⟩:=List.getElem_of_mem hm;exact hn j (by omega) (by rw[U0 hj,e])
theorem OG {P:Program}{s g:FuncId}(us:nP P s)(ue:sI P g){Λ:Nat->Nat}{H:eX}{nb b:Nat}{w:f_}{v:i9}{x:fF}{e o n l d:AV}{L:fX}{K:AX->St->Prop}(a:fW Λ H nb w v)
  (k0:lk 0 L=.aC nb 9 0 0) (k5:lk 5 L=.aC b 10 0 0) (k7:lk 7 L=.aA .i64 (x.aA.aA+1)) (hB:H[b]?=some (some (.aA 10 [x.aH e o n l d] false))) (hb:Λ b=0) (he:Rd (Zs Λ H) H (gK x.aA.es) e) (ok:jL x.aA)
  (E:∀(n:Nat) e,x.aA.aA<=n->v.aA[n]?=some e->∀t,v.aE[n]?=some t->t<x.aC->x.aA.aJ (n+1) 1=[e]) (hlen:v.aE.length=v.aA.length/\v.aA.length<=2^29)
  (hK:∀Lv h',eW eZ H h'->K (.aD 2) ⟨Lv,[],h'⟩):vc P (.aD (Al s g)) ⟨L,[],H⟩ K:=by
 obtain⟨B,a6⟩:∃B:Nat,x.aA.aA=B:=⟨x.aA.aA.toNat,by have:=ok.1;omega⟩;have B41:B<=2^41:=by have:=ok.2.1;omega
 obtain⟨I,hI⟩:∃I:Nat->fX->eX->Prop,∀m Lv h',I m Lv h'↔∃i:Nat,(lk 0 Lv=.aC nb 9 0 0/\lk 5 Lv=.aC b 10 0 0/\lk 7 Lv=.aA .i64 ((i+1:Nat):Int))/\eW eZ H h'/\B<=i/\m=v.aA.length-i:=⟨_,λ_ _ _=>WA⟩;refine iM I (v.aA.length-B) ((hI _ _ _).2 ⟨B,⟨k0,k5,by rw[k7,a6];rfl⟩,eW.aC _ _,by omega,by omega⟩) ?_;intro m Lv h1 hh;obtain⟨i,⟨k0,k5,k7⟩,X1,hi,rfl⟩:=(hI _ _ _).1 hh;clear hh;have a1:=a.up X1;have C:=a1.aA;simp only[f_.aA]at C;have dl:=a1.aT;have B1:=X1.aA hB;have a5:=he.up X1;have sc:=he.aA;simp only[fF.aH]at B1;simp only[Al,go_sem,k0,k7,C,dl];refine ij (λci=>?_) (λci=>?_)
 ·simp at ci;have ci:i<v.aA.length:=by omega
  have Z:IntKind.i64.wrap (((i+1:Nat):Int)+1)=((i+1+1:Nat):Int):=by rw[gj (by omega)];omega
  have W:IntKind.i64.wrap (((i+1:Nat):Int)-1)=((i:Nat):Int):=by rw[gj (by omega)];omega
  have rl:fu (Zs Λ H) h1 x.aA.c [.aA .i64 x.aA.aA,.aA .i64 x.aA.aD,e]:=by simp only[fA.c,fu,Rd];exact⟨_,_,rfl,rfl,_,_,rfl,rfl,e,_,rfl,a5,rfl⟩
  simp only[go_sem,k5,k7,B1];refine fy ⟨us.1,us.2 _ h1 x.aA _ ((i+1:Nat):Int) 1 rl ok⟩ ?_;rintro r h2 ⟨ow,-,X2⟩;have O:eW eZ H h2:=X1.tr X2;have a2:=a.up O;have u:=a2.aA;simp only[f_.aA]at u;have B2:=O.aA hB;simp only[fF.aH]at B2;have sr:=ow.aA;obtain⟨n1,j1,r1,g1,e1,-,e3,e4⟩:=Cr a2.aN (i:=i) (by omega);have el:=(UY.1 e4).1;have fin:∀Lw:fX,lk 0 Lw=.aC nb 9 0 0->lk 5 Lw=.aC b 10 0 0->lk 7 Lw=.aA .i64 ((i+1+1:Nat):Int)->∃m'<v.aA.length-i,I m' Lw h2:=λLw q0 q5 q7=>⟨_,by omega,(hI _ _ _).2 ⟨i+1,⟨q0,q5,q7⟩,O,by omega,rfl⟩⟩;by_cases ct:v.aE[i]<x.aC
  ·have U:=E i _ (by omega) (U0 ci) _ (U0 (by omega)) ct;rw[show ((i+1:Nat):Int)=(i:Int)+1 by omega,U]at ow;have rr:Rd (λ_=>True) h2 (gK [v.aA[i]]) r:=eY.rd _ (λ_ _=>Vd) _ ow;have a3:ik r=some (.aA .i64 (1:Int)):=by have:=rr.aC;simpa [gK] using this
   obtain⟨p,cs,q1,q2,q3⟩:=Rd.aD rr .i64 (i:=(0:Int)) (d:=(v.aA[i]).c) (by omega) rfl;have a4:=q3;have M:v.aA[i].aC.length<=2^40:=by
    refine ok.2.2.2 _ (?_:v.aA[i]∈x.aA.es);have:v.aA[i]∈x.aA.aJ ((i:Int)+1) 1:=by rw[U];simp
    unfold fA.aJ at this;split at this;·simp at this
    ·exact VC (VR this)
   simp only[fU.c,fu,Rd]at q3;obtain⟨_,_,rfl,rfl,_,_,rfl,rfl,dd,_,rfl,qd,rfl⟩:=q3;have LD:ir h2 true 3 p=some (.aF [.aA .i64 v.aA[i].aA,.aA .i64 v.aA[i].aD,dd]):=by rw[jr q2];rfl
   obtain⟨nd,jd,drow,dg,d2,g1,g2,g3,g4,g5⟩:=a2.aW ci;have jdl:=(UY.1 g3).1;have q4:fu (λ_=>True) h2 (v.aA[i]).c [.aA .i64 v.aA[i].aA,.aA .i64 v.aA[i].aD,d2]:=by simp only[fU.c,fu,Rd];exact⟨_,_,rfl,rfl,_,_,rfl,rfl,d2,_,rfl,Rd.aE (λ_ _=>Vd) (λ_ _ _ y=>y) _ _ g4,rfl⟩
   simp only[go_sem,k0,k5,k7,u,B2,e1,e3,e4,W,U3 ct,a3,q1,LD,g1,g2,g3];have GD:ir h2 true 3 (.aC nd 3 jd 0)=some (.aF [.aA .i64 v.aA[i].aA,.aA .i64 v.aA[i].aD,d2]):=by simp only[go_sem,g2,g3]
   refine fy ⟨ue.1,ue.2 _ h2 _ _ _ _ a4 q4 M⟩ ?_;rintro _ h9 ⟨rfl,e9⟩;rw[e9];clear e9 h9;simp only[go_sem,k7,u,B2,e3,e4,LD,GD,Z];exact fin _ (by simp[fm,k0]) (by simp[fm,k5]) (by simp[fm])
  ·simp only[go_sem,k0,k5,k7,u,B2,e1,e3,e4,W,U2 ct,Z];exact fin _ (by simp[fm,k0]) (by simp[fm,k5]) (by simp[fm])
 ·simp at ci;simp only[go_sem];exact hK _ _ X1
theorem OH {P:Program}{f s g:FuncId}(hf:Is P f (Aj s g))(us:nP P s)(ue:sI P g):yN P f:=by
 refine⟨hf.2,λΛ h nb w v who x cs a ai hx=>fS hf ?_⟩;obtain⟨e,o,n,l,d,rfl,he,ho,hn,hl,hd⟩:=lO hx;have se:=he.aA;have so:=ho.aA;have sn:=hn.aA;have sl:=hl.aA;have sd:=hd.aA;obtain⟨H,hH⟩:∃H,H=h++[some (e_.aA 10 [x.aH e o n l d] false)]:=⟨_,rfl⟩;have X1:eW eZ h H:=by rw[hH];exact eW.b1 _
 have B1:H[h.length]?=some (some (e_.aA 10 [x.aH e o n l d] false)):=by rw[hH];exact gJ _ _
 have a1:=a.up X1;have s1:gy Λ h Λ H:=gy.up X1;have z0:Λ h.length=0:=a.aD (U8 _);have hl1:H.length=h.length+1:=by rw[hH];simp
 simp only[fF.aH]at hH;simp only[Aj,fF.aH,go_sem,se,so,sn,sl,sd];rw[<-hH];clear hH;refine OF a1 (who:=who) (x:=x) (by simp[fm,g_]) (by simp[fm,g_]) (by simp[fm]) (by simp[fm]) B1 ai (λLv hm k0 k1 k5=>?_) (λLv hm=>?_);·have C:=a1.aA;simp only[f_.aA,fF.aH]at C B1;have R1:∀y,(H++[y])[nb]?=_:=λy=>(eW.b1 y).aA C;have U:∀y,(H++[y])[h.length]?=_:=λy=>(eW.b1 y).aA B1;have nbl:=(UY.1 C).1;have N1:∀sz i o,gN H.length 1 (.aC nb sz i o)=true:=λsz i o=>ig (by omega);have N2:∀sz i o,gN H.length 1 (.aC h.length sz i o)=true:=λsz i o=>ig (by omega);have ae:=lG H 1 [[AV.aA IntKind.i64 x.aC]] false (some 1) (len:=1) rfl;have X2:eW eZ H (H++[some (e_.aA 1 [[AV.aA IntKind.i64 x.aC]] false)]):=eW.b1 _;obtain⟨x',h3,e1,sx,n3,W,Λ2,t1,t2⟩:=a1.bA X2 x.aC (by have:=ai.aA.2;omega);rw[<-iv ae]at e1;simp only[f_.aA]at n3 t1 t2;obtain⟨H3,E⟩:∃H3,H3=h3.set nb (some (e_.aA 9 [[w.lv,w.hv,w.av,w.pv,w.dv,w.tv,x',w.qv,.aE false]] false)):=⟨_,rfl⟩;rw[<-E]at t1 t2;simp only[go_sem,jh,k0,k5,R1,U,N1,N2,e1,sx,gz sx,n3,<-E];have u:=t2.aA;simp only[f_.aA]at u;clear E e1 ae n3 W R1 U N1 N2;have ae:=lG H3 1 [[AV.aA IntKind.i64 who]] false (some 1) (len:=1) rfl;have X4:eW eZ H3 (H3++[some (e_.aA 1 [[AV.aA IntKind.i64 who]] false)]):=eW.b1 _;have R4:(H3++[some (e_.aA 1 [[AV.aA IntKind.i64 who]] false)])[nb]?=_:=X4.aA u;obtain⟨x4,h4,e4,I,n4,nl4,Λ4,u1,u2⟩:=t2.bz X4 who (by have:=ai.aA;show v.aH.length<=_;omega);rw[<-iv ae]at e4;simp only[f_.aA]at n4 u1 u2;obtain⟨H4,O⟩:∃H4,H4=h4.set nb (some (e_.aA 9 [[w.lv,w.hv,w.av,w.pv,w.dv,w.tv,x',x4,.aE false]] false)):=⟨_,rfl⟩;rw[<-O]at u1 u2;simp only[go_sem,k1,k5,u,e4,I,gz I,n4,<-O];have s4:=(s1.aA t1).aA u1;have M:=t1.aA u1;have B4:=(M.z h.length (by omega) z0).trans B1;have z4:=(M.aC h.length (by omega)).trans z0;have Z:=s4.rd he;have ew:IntKind.i64.wrap (x.aA.aA+1)=x.aA.aA+1:=gj (by have:=ai.ok;simp only[jL]at this;omega);simp only[go_sem,B4,ew];refine OG (x:=x) (e:=e) (o:=o) (n:=n) (l:=l) (d:=d) us ue u2 (by simp[fm,k0]) (by simp[fm,k5]) (by simp[fm]) B4 z4 Z ai.ok ai.aD ai.aC (λLw h5 X5=>?_);simp only[go_sem];refine⟨Λ4,{w with ev:=x',qv:=x4},s4.aA (gy.up X5),rfl,?_⟩;rw[U6 hm,U6 hm];exact u2.up X5
 ·simp only[go_sem];refine⟨Λ,w,s1,rfl,?_⟩;rw[U4 hm,U4 hm];exact a1
theorem O9 {row:List (List AV)}{j:Nat}{o p x y:AV} (h:row[j]?=some [o,p]):(row.modify j λc=>(c.set 0 x).set 1 y)=row.set j [x,y]:=by
 obtain⟨hj,e⟩:=UY.1 h;apply VM;intro i;rw[WO,Wl];by_cases c:j=i;·subst c;rw[U4 rfl,U4 hj,U0 hj,e];simp
 ·rw[U6 c];cases row[i]?<;>simp[c]
theorem Th {P:Program}{fa fh fs fp fr fl:FuncId}(ua:rX P fa){Λ:Nat->Nat}{H:eX}{nb b:Nat}{w:f_}{v:i9}{k:Nat}{ma ca aa fi rs:AV}{cl:List gi}{qe:fF}{L:fX}{K:AX->St->Prop}(a:fW Λ H nb w v)
  (k0:lk 0 L=.aC nb 9 0 0) (k1:lk 1 L=.aA .i64 k) (k5:lk 5 L=.aC b 5 0 0) (k6:lk 6 L=.aA .i64 (0:Int)) (hB:H[b]?=some (some (.aA 5 [[ma,ca,aa,fi,rs]] false))) (hb:Λ b=0) (hc:Rd (Zs Λ H) H (nS cl) ca) (hl:cl.length<=2^40)
  (hk:k<v.aD.length) (ch:nk v.aD[k] cl qe)
  (hK:∀Lv Λ' h',lk 0 Lv=.aC nb 9 0 0->lk 1 Lv=.aA .i64 k->lk 5 Lv=.aC b 5 0 0->gy Λ H Λ' h'->fW Λ' h' nb w {v with aD:=v.aD.set k qe}->K (.aD 0) ⟨Lv,[],h'⟩):vc P (.aD (Ao fa fh fs fp fr fl)) ⟨L,[],H⟩ K:=by
 have blen:=(UY.1 hB).1;obtain⟨I,hI⟩:∃I:Nat->fX->eX->Prop,∀m Lv h',I m Lv h'↔∃(j:Nat)(Λ':Nat->Nat)(q:fF),(lk 0 Lv=.aC nb 9 0 0/\lk 1 Lv=.aA .i64 k/\lk 5 Lv=.aC b 5 0 0/\lk 6 Lv=.aA .i64 (j:Int))/\gy Λ H Λ' h'/\nk q (cl.drop j) qe /\
   fW Λ' h' nb w {v with aD:=v.aD.set k q}/\j<=cl.length/\m=cl.length-j:=⟨_,λ_ _ _=>WA⟩
 refine iM I cl.length ((hI _ _ _).2 ⟨0,Λ,v.aD[k],⟨k0,k1,k5,by simpa using k6⟩,gy.aF _ _,ch,?_,by omega,by omega⟩) ?_;·rw[WZ];exact a
 intro m Lv h1 hh;obtain⟨j,Λ1,q,⟨k0,k1,k5,k6⟩,s1,ch,a1,hj,rfl⟩:=(hI _ _ _).1 hh;clear hh;have B1:=(s1.z b blen hb).trans hB;have hc1:=s1.rd hc;have row1:=a1.aA;simp only[f_.aA]at row1;have lc:ik ca=some (.aA .i64 cl.length):=by have:=hc.aC;simpa [nS] using this
 simp only[Ao,go_sem,k5,k6,B1,lc];refine ij (λcj=>?_) (λcj=>?_)
 ·simp at cj;have cj:j<cl.length:=by omega
  rw[Wh cj]at ch;obtain⟨ch1,⟨ch2,ch3⟩,ch4,ch5⟩:=ch;have ea:=Kp ch1 ch4;obtain⟨ya,yb,hy,hya,hyb⟩:∃ya yb,(iQ (q.aI cl[j]).1).v=[ya,yb]/\ya.aH=true/\yb.aH=true:=⟨_,_,rfl,lI _,lI _⟩;have XB:eW eZ h1 (h1++[some (e_.aA 2 [[ya,yb]] false)]):=eW.b1 _;have aB:=a1.up XB;obtain⟨n0,i0,row,g,x,y,e1,e2,e3,e4,e5,e6,e7,-⟩:=a1.aR (k:=k) (by simpa using hk);simp only[WJ]at e4;obtain⟨n1,i1,row',g',x',y',f1,f2,-,-,-,-,-,f⟩:=aB.aR (k:=k) (by simpa using hk);rw[e1]at f1;injection f1 with f1;injection f1 with f1 _ f1';subst f1 f1';rw[XB.aA e2]at f2;injection f2 with f2;injection f2 with f2;injection f2 with _ f2 f2';subst f2 f2';obtain⟨pc,cc,j1,j2,j3⟩:=Rd.aD hc1 .i64 (i:=(j:Int)) (d:=(cl[j]).c) (by omega) (by rw[show ((j:Int)).toNat=j by omega,VE,U0 cj];rfl);obtain⟨ce,cO,cN,cL,cS,rfl,-⟩:=Da j3;have ew:IntKind.i64.wrap ((j:Int)+1)=((j+1:Nat):Int):=by rw[gj (by omega)];omega
  have nbl:=(UY.1 row1).1;have bl1:=(UY.1 B1).1;have il:=(UY.1 e3).1;have R1:∀w,(h1++[w])[nb]?=_:=λw=>(eW.b1 w).aA row1;have BB1:∀w,(h1++[w])[b]?=_:=λw=>(eW.b1 w).aA B1;have X1:∀w,(h1++[w])[n0]?=_:=λw=>(eW.b1 w).aA e2;have LD:∀w,ir (h1++[w]) true 17 pc=some (.aF _):=λw=>jr (rQ j2 (eW.b1 w)) true 17;have N0:∀sz i o,gN h1.length 1 (.aC nb sz i o)=true:=λsz i o=>ig (by omega);have N1:∀sz i o,gN h1.length 1 (.aC b sz i o)=true:=λsz i o=>ig (by omega);have N2:∀sz i o,gN h1.length 1 (.aC n0 sz i o)=true:=λsz i o=>ig (by omega);simp only[go_sem,jh,k0,k1,k5,k6,R1,BB1,X1,e1,e3,j1,LD,N0,N1,N2];have ra:fu (λn=>True) (h1++[none]) (iQ q).c [x,y]:=fu.aA (F:=Zs Λ1 h1) (h:=h1) (λ_ _=>Vd) ((eW.b1 none).aE _) _ _ e4;have rc:=fu.aA (F':=λn=>True) (λ_ _=>Vd) ((eW.b1 none).aE _) _ _ j3;have ap:=ua.aA ra rc ch3 (U8 _) ch2;rw[ea]at ap;refine⟨Hj j2 _,fy ⟨ua.1,ap⟩ ?_⟩;rintro _ h7 ⟨rfl,e7'⟩;rw[e7'];clear e7' h7;have ry:fu eZ h1 (iQ (q.aI cl[j]).1).c [ya,yb]:=by rw[<-hy];exact nG _ _ _
  have B61:∀w:Option e_,(h1++[w])[h1.length]?=some w:=λw=>by simp
  have s61:∀w y:Option e_,(h1++[w]).set h1.length y=h1++[y]:=λw y=>by simp
  have n61:∀w:Option e_,h1.length<(h1++[w]).length:=λw=>by simp
  rw[hy];obtain⟨Λ3,t1,t2⟩:=f (q.aI cl[j]).1 ya yb (fu.aA (λ_ y=>y) (λ_ y=>y.elim) _ _ ry);simp only[go_sem,jh,k0,k1,k6,R1,BB1,X1,e1,e3,il,B61,LD,s61,hya,hyb,ew];rw[O9 e3];refine⟨_,by omega,(hI _ _ _).2 ⟨j+1,Λ3,_,⟨by simp[fm,k0],by simp[fm,k1],by simp[fm,k5],by simp[fm]⟩,(s1.aA (gy.up XB)).aA t1,ch5,?_,by omega,rfl⟩⟩;simp only[VX]at t2;exact t2
 ·simp at cj;have:j=cl.length:=by omega
  subst this;rw[Xd]at ch;have ch:qe=q:=ch;subst ch;simp only[go_sem];exact hK _ _ _ (by simp[fm,k0]) (by simp[fm,k1]) (by simp[fm,k5]) s1 a1
structure uE (v:i9)(k:Nat)(o:mu)(y:fj)(D':List fU)(n:Nat):Prop where
 k5:k<5/\v.aD.length=5
 aH:v.l[k]?=some y
 aC:∀h:k<v.aD.length,nk v.aD[k] o.aC y.aA
 aE:y.aA.aJ 130000
 aA:DH {v with aD:=v.aD.set k y.aA} k n o.aF D' o.aE o.aA
 aG:(v.aG.length+o.aD.length)*200<=2^46
 aD:o.aC.length<=2^40
 aF:y.aI=2->yM {v with aA:=D',aE:=v.aE++List.replicate (D'.length-v.aA.length) y.aA.aC} (k+1) y.aA
def i9.aI (v:i9)(k:Nat)(o:mu)(y:fj)(D':List fU)(n:Nat):i9:=
 {v with aD:=v.aD.set k y.aA,aC:=v.aC.set k ((n+o.aF.length:Nat):Int),aG:=v.aG++o.aD,aA:=D',aE:=v.aE++List.replicate (D'.length-v.aA.length) y.aA.aC,aF:=if y.aI=2/\y.aA.aC∉v.aF then v.aF++[y.aA.aC] else v.aF,aH:=if y.aI=2/\y.aA.aC∉v.aF then v.aH++[(k:Int)+1] else v.aH}
def lF (P:Program)(f:FuncId):Prop:=fK P f=true/\∀(Λ:Nat->Nat)(h:eX)(nb:Nat)(w:f_)(v:i9)(k:Nat)(o:mu)(y:fj)(D':List fU)(n:Nat)(ma ca aa:AV),fW Λ h nb w v->uE v k o y D' n->
 Rd (Zs Λ h) h (td o.aD) ma->Rd (Zs Λ h) h (nS o.aC) ca->Rd (Zs Λ h) h (gK o.aF) aa->
 fC P f [.aC nb 9 0 0,.aA .i64 k,.aF [ma,ca,aa,.aA .i64 o.aE,.aE o.aA]] h λ_ h'=>∃Λ' w',gy Λ h Λ' h'/\w'.rs=w.rs/\fW Λ' h' nb w' (v.aI k o y D' n)
theorem Nq {F:Nat->Prop}{h:eX}{x:fF}{e o n l s:AV}(hh:fu F h x.c (x.aH e o n l s)):e.aH=true/\o.aH=true/\n.aH=true/\l.aH=true/\s.aH=true:=by obtain⟨e',o',n',l',s',eq,h1,h2,h3,h4,h5⟩:=lO hh;simp only[fF.aH,Wc,and_true,true_and]at eq;obtain⟨rfl,rfl,rfl,rfl,rfl⟩:=eq;exact⟨h1.aA,h2.aA,h3.aA,h4.aA,h5.aA⟩
theorem Ti {P:Program}{f fa fh fs fp fr fl:FuncId}(hf:Is P f (An fa fh fs fp fr fl))(ua:rX P fa)(uh:wB P fh)(us:zi P fs)(up:yp P fp)(ur:pf P fr fj.aI)(ul:yN P fl):lF P f:=by
 refine⟨hf.2,λΛ h nb w v k o y D' n ma ca aa a ti rm rc ra=>fS hf ?_⟩;obtain⟨⟨k5,kH⟩,self,chain,fit,app,post,few,lead⟩:=ti;have sm:=rm.aA;have sc:=rc.aA;have sa:=ra.aA;obtain⟨H,hH⟩:∃H,H=h++[some (e_.aA 5 [[ma,ca,aa,.aA .i64 o.aE,.aE o.aA]] false)]:=⟨_,rfl⟩;have X1:eW eZ h H:=by rw[hH];exact eW.b1 _
 have B1:H[h.length]?=some (some (e_.aA 5 [[ma,ca,aa,.aA .i64 o.aE,.aE o.aA]] false)):=by rw[hH];exact gJ _ _
 have a1:=a.up X1;have s1:gy Λ h Λ H:=gy.up X1;have z0:Λ h.length=0:=a.aD (U8 _);have hl1:H.length=h.length+1:=by rw[hH];simp
 simp only[An,go_sem,sm,sc,sa];rw[<-hH];clear hH;refine Th ua a1 (qe:=y.aA) (by simp[fm,g_]) (by simp[fm,g_]) (by simp[fm]) (by simp[fm]) B1 z0 (s1.rd rc) few (by omega) (chain (by omega)) (λLv Λ2 H2 k0 k1 k5' s2 a2=>?_);have row2:=a2.aA;simp only[f_.aA]at row2;have s12:=s1.aA s2;have B2:=(s2.z h.length (by omega) z0).trans B1;have z2:=(s2.aC h.length (by omega)).trans z0;obtain⟨hkl,self'⟩:=UY.1 self;obtain⟨n0,j0,lrow,lg,r,e1,e2,e3,e4,e5,e6,e7,-,-⟩:=a2.aG (k:=k) hkl;simp only[self']at e5;have el:=(UY.1 e3).1;simp only[go_sem,k0,k1,row2,e1,e2,e3];obtain⟨⟨gg,ff,rAt⟩,-⟩:=e5;refine fy ⟨uh.1,uh.2 H2 r y ⟨_,_,rAt.aA⟩ (fit.aF (by omega)) (fit.aC.le (by omega)) (by have:=fit.aG;omega) ⟨by have:=fit.aE;omega,by have:=fit.aA;omega⟩⟩ ?_;rintro _ H3 ⟨hb,rfl,ob,X3⟩;obtain⟨he,ho,hn,hl,hs,rfl,-⟩:=lO (F:=λ_=>True) (h:=H3) (fI.rd _ (λ_ _=>Vd) _ ob);have hd3:fu (λ_=>True) H3 y.aA.c (y.aA.aH he ho hn hl hs):=fI.rd _ (λ_ _=>Vd) _ ob;obtain⟨b1,b2,b3,b4,b5⟩:=Nq hd3;obtain⟨H4,hH4⟩:∃H4,H4=H3++[some (e_.aA 10 [y.aA.aH he ho hn hl hs] false)]:=⟨_,rfl⟩;have X4:eW eZ H3 H4:=by rw[hH4];exact eW.b1 _
 have X24:eW eZ H2 H4:=X3.tr X4;have C4:H4[H3.length]?=some (some (e_.aA 10 [y.aA.aH he ho hn hl hs] false)):=by rw[hH4];exact gJ _ _
 have a4:=a2.up X24;have s4:=s12.aA (gy.up X24);have row4:=a4.aA;simp only[f_.aA]at row4;have B4:=X24.aA B2;have z4:=z2;have l3:=X3.1;have l4:H4.length=H3.length+1:=by rw[hH4];simp
 have c0:Λ2 H3.length=0:=a2.aD l3;have hd4:fu (Zs Λ2 H4) H4 y.aA.c (y.aA.aH he ho hn hl hs):=fu.up (fI.rd _ (λm hm=>⟨a2.aD hm.1,by have:=hm.2;omega⟩) _ (fI.lt _ _ ob)) X4;obtain⟨n1,j1,hrow,hg,hx,hy,i1,i2,i3,i4,i5,i6,i7,-⟩:=a4.aR (k:=k) (by simp;omega);have il:=(UY.1 i3).1;simp only[WJ,jf.c,iQ,fu]at i4;obtain⟨hx',_,f1,rh,hy',_,f2,-⟩:=i4;injection f1 with f1 f1';subst f1;obtain⟨p,cs,q1,q2,q3⟩:=Rd.aD rh .i64 (i:=(0:Int)) (d:=y.aA.c) (by omega) rfl;have q3':=q3;obtain⟨he',ho',hn',hl',hs',rfl,-⟩:=lO q3;have LD:ir H4 true 10 p=some (.aF (y.aA.aH he' ho' hn' hl' hs')):=by rw[jr q2];rfl
 simp only[fF.aH]at hH4 C4 LD;simp only[fF.aH,go_sem,b1,b2,b3,b4,b5,<-hH4,k0,k1,row4,i1,i2,i3,q1,LD,C4];clear hH4;refine fy ⟨us.1,us.2 _ _ H4 y.aA y.aA _ _ hd4 q3' (fit.aD (by omega))⟩ ?_;rintro _ h9 ⟨rfl,e9⟩;rw[e9];clear e9 h9;have ID:ir H4 true 10 p=some (.aF (y.aA.aH he' ho' hn' hl' hs')):=LD;simp only[go_sem,k0,k1,k5',row4,i2,i3,LD,C4,B4];refine fy ⟨up.1,up.2 Λ2 H4 nb w _ k n y.aA.aC ma ca aa o.aF D' o.aE o.aA a4 app (s4.rd ra) sm sc⟩ ?_;rintro _ H5 ⟨Λ5,w5,s5,wr5,a5⟩;have row5:=a5.aA;simp only[f_.aA]at row5;have hl4:=(UY.1 B4).1;have B5:=(s5.z h.length hl4 z4).trans B4;have C5:=(s5.z H3.length (by omega) c0).trans C4;have rm5:=(s4.aA s5).rd rm;have hd5:=s5.aE hd4;obtain⟨ys,ae,rys⟩:=rm5.aH;obtain⟨x',h3,g1,sx,n3,nl3,Λ6,t1,t2⟩:=a5.aV (eW.aC _ H5) (ms:=o.aD) (ys:=ys) rys (by simpa using post) (bytes:=168) (by decide);rw[<-iv ae]at g1;simp only[f_.aA]at n3 t1 t2;obtain⟨H6,hH6⟩:∃H6,H6=h3.set nb (some (e_.aA 9 [[w5.lv,w5.hv,w5.av,x',w5.dv,w5.tv,w5.ev,w5.qv,.aE false]] false)):=⟨_,rfl⟩;rw[<-hH6]at t1 t2;simp only[go_sem,k0,k5',row5,B5,g1,sx,gz sx,n3,<-hH6];have row6:=t2.aA;simp only[f_.aA]at row6;have C6:=(t1.z H3.length (by have:=s5.aD;omega) ((s5.aC H3.length (by omega)).trans c0)).trans C5;have hd6:=t1.aE hd5;obtain⟨n0',j0',lrow',lg',r',u1,u2,u3,u4,u5,u6,u7,-,-⟩:=t2.aG (k:=k) hkl;simp only[self']at u5;have ul':=(UY.1 u3).1;simp only[go_sem,k1,row6,u1,u2,u3];obtain⟨⟨gg',ff',rAt'⟩,-⟩:=u5;refine fy ⟨ur.1,ur.2 H6 r' y ⟨_,_,rAt'.aA⟩⟩ ?_;rintro _ h9 ⟨rfl,e9⟩;rw[e9];clear e9 h9;have s6:=(s4.aA s5).aA t1;by_cases c:y.aI=2
 ·have ew:IntKind.i64.wrap ((k:Int)+1)=(k:Int)+1:=gj (by omega);simp only[go_sem,k0,k1,U3 c,C6,ew];have l:=lead c;refine fy ⟨ul.1,ul.2 Λ6 H6 nb _ _ ((k:Int)+1) y.aA _ t2 ⟨l.aE,l.aD,l.ok,l.aA,l.aC⟩ hd6⟩ ?_;rintro _ H7 ⟨Λ7,w7,s7,wr7,a7⟩;simp only[go_sem];refine⟨Λ7,w7,s6.aA s7,wr7.trans wr5,?_⟩;have e:v.aI k o y D' n={v with aD:=v.aD.set k y.aA,aC:=v.aC.set k ((n+o.aF.length:Nat):Int),aG:=v.aG++o.aD,aA:=D',aE:=v.aE++List.replicate (D'.length-v.aA.length) y.aA.aC,aF:=if y.aA.aC∈v.aF then v.aF else v.aF++[y.aA.aC],aH:=if y.aA.aC∈v.aF then v.aH else v.aH++[(k:Int)+1]}:=by
   unfold i9.aI;by_cases c2:y.aA.aC∈v.aF;·rw[U6 (λz=>z.2 c2),U6 (λz=>z.2 c2),U4 c2,U4 c2]
   ·rw[U4 ⟨c,c2⟩,U4 ⟨c,c2⟩,U6 c2,U6 c2]
  rw[e];exact a7
 ·simp only[go_sem,U2 c];refine⟨Λ6,{w5 with pv:=x'},s6,wr5,?_⟩;have e:v.aI k o y D' n={v with aD:=v.aD.set k y.aA,aC:=v.aC.set k ((n+o.aF.length:Nat):Int),aG:=v.aG++o.aD,aA:=D',aE:=v.aE++List.replicate (D'.length-v.aA.length) y.aA.aC}:=by unfold i9.aI;rw[U6 (λz=>c z.1),U6 (λz=>c z.1)]
  rw[e];exact t2
def iA (x:gQ):i9:=⟨x.l,x.l.map fj.aA,x.l.map fj.aF,x.aA,x.aC,x.aJ,x.aE,x.aF⟩
section
variable {c0:fq} {B K B' K':Nat} {x:gQ} {k:Nat} {y:RX}
theorem uE.of (ok:ib c0 B K x)(u:ib c0 B' K' (x.aD k y))(hk:k<x.l.length) (ti:ng x x.l[k].aA x.l[k].aF y) (hK:K'<=130000) (few:y.o.aC.length<=2^40) (po:(x.aA.length+y.o.aD.length)*200<=2^46) (tl:x.aE.length<=2^29) (dl:(gT x.aC y.r).length<=2^29):
  ∃n,uE {iA x with l:=x.l.set k y.r} k y.o y.r (gT x.aC y.r) n/\({iA x with l:=x.l.set k y.r}:i9).aI k y.o y.r (gT x.aC y.r) n=iA (x.aD k y):=by
 have l5:=ok.aE;have fit:y.r.aD K':=by have:=u.aC k (by show k<(x.l.set k y.r).length;simpa using hk);have e:(x.aD k y).l[k]'(by show k<(x.l.set k y.r).length;simpa using hk)=y.r:=WJ ..;rw[e]at this;exact this
 have mem:=u.aD k (by show k<(x.l.set k y.r).length;simpa using hk);have e:(x.aD k y).l[k]'(by show k<(x.l.set k y.r).length;simpa using hk)=y.r:=WJ ..;rw[e]at mem;obtain⟨n,a1,a2,a3,a4,a5,a6⟩:=ti.aA;have fk:y.r.aA.aJ 130000:=fit.aS hK;refine⟨n,⟨⟨by omega,by simp[iA,l5]⟩,?_,λh=>?_,fk,⟨⟨by omega,by simp[iA,l5],by simp[iA,l5]⟩,λh1 h2=>?_,a2,a4,ti.aF,a5,⟨a6,dl⟩,λe he=>?_,ok.aK⟩,po,few,λrole=>?_⟩,?_⟩;·show (x.l.set k y.r)[k]?=some y.r;rw[U5 hk]
 ·have e:(x.l.map fj.aA)[k]'h=x.l[k].aA:=List.getElem_map ..;show nk ((x.l.map fj.aA)[k]'h) _ _;rw[e];exact ti.aC
 ·rw[a1];have e1:((x.l.map fj.aA).set k y.r.aA)[k]'h1=y.r.aA:=WJ ..;have e2:(x.l.map fj.aF)[k]'h2=x.l[k].aF:=List.getElem_map ..;show (if y.o.aA=true then y.r.aA.aA.aA else x.l[k].aF)=if y.o.aA=true then (((x.l.map fj.aA).set k y.r.aA)[k]'h1).aA.aA else (x.l.map fj.aF)[k]'h2
  rw[e1,e2]
 ·have:=fit.aH e (ti.aD e he);have:=this.1.2;omega
 ·obtain⟨p1,p2⟩:=ti.aE role;have thL:=ok.aK;refine⟨λi t j h1 h2 h3=>(p1 i t j h1 h2 h3).trans mem.1,p2,fk.aF (by omega),⟨ok.aN,tl⟩,?_,dl⟩;show (x.aJ++List.replicate ((gT x.aC y.r).length-x.aC.length) y.r.aA.aC).length=(gT x.aC y.r).length;simp only[U1,Wo];omega
 ·have C:(k:Int)+1=y.r.id:=mem.1.symm;simp only[i9.aI,iA,gQ.aD,a3,C,Xi];congr 1<;>(split<;>simp_all)
theorem fW.aZ {Λ:Nat->Nat}{h h':eX}{nb:Nat}{w:f_}{v:i9}{k:Nat}{y:RX}{res:AV}(a:fW Λ h nb w v)(hk:k<w.rs.length)(u:k<v.l.length) (b:jU (gB k Λ) h w.rs[k] y res h'):
  ∃Λ' ma ca aa,res=.aF [ma,ca,aa,.aA .i64 y.o.aE,.aE y.o.aA]/\gy Λ h Λ' h'/\fW Λ' h' nb w {v with l:=v.l.set k y.r}/\Rd (Zs Λ' h') h' (td y.o.aD) ma/\Rd (Zs Λ' h') h' (nS y.o.aC) ca/\Rd (Zs Λ' h') h' (gK y.o.aF) aa:=by
 obtain⟨L',m1,e,⟨ma,ca,aa,rfl,oa,ob,oc,-,-⟩,hx⟩:=b.aA (a.aF k hk u);obtain⟨n1,n2,n3⟩:=a.bC hk u m1 e hx;have z:∀j,j=3\/j=4\/j=5->∀m,(h.length<=m/\m<h'.length)/\L' m=j->Zs (mE k Λ h.length (l9 L')) h' m:=by intro j hj m hm;refine⟨n3 m hm.1.1 ?_,hm.1.2⟩;unfold l9;rw[U6 (by omega)]
 have pz:∀m,gB k Λ m=0->¬wA (gB k Λ m):=λm e=>by rw[e];simp[wA]
 refine⟨_,ma,ca,aa,rfl,⟨hx.1,n2,λm hm c=>hx.2 m hm (pz m (by unfold gB;rw[c];split<;>omega)),λm hm c=>hx.2 m hm (pz m (by unfold gB;rw[U6 (by have:=a.aE;omega)]))⟩,n1,eY.rd _ (z 3 (by omega)) _ oa,eY.rd _ (z 4 (by omega)) _ ob,eY.rd _ (z 5 (by omega)) _ oc⟩
theorem lF.aD {P:Program}{ft:FuncId}(ut:lF P ft){Λ:Nat->Nat}{h h':eX}{nb:Nat}{w:f_}{res:AV}{KK:AV->eX->Prop}(a:fW Λ h nb w (iA x))(ok:ib c0 B K x)(e:ib c0 B' K' (x.aD k y))(hk:k<x.l.length) (ti:ng x x.l[k].aA x.l[k].aF y) (hK:K'<=130000) (few:y.o.aC.length<=2^40)
  (po:(x.aA.length+y.o.aD.length)*200<=2^46) (tl:x.aE.length<=2^29) (dl:(gT x.aC y.r).length<=2^29) (hr:k<w.rs.length) (b:jU (gB k Λ) h w.rs[k] y res h')
  (u:∀v Λ2 h2 w2,gy Λ h Λ2 h2->w2.rs=w.rs->fW Λ2 h2 nb w2 (iA (x.aD k y))->KK v h2):mI P ft [.aC nb 9 0 0,.aA .i64 k,res] h' KK:=by
 obtain⟨Λ1,ma,ca,aa,rfl,s1,a1,r1,r2,r3⟩:=a.aZ hr hk b;obtain⟨n,t1,t2⟩:=uE.of ok e hk ti hK few po tl dl;refine fy ⟨ut.1,ut.2 Λ1 h' nb w _ k y.o y.r _ n ma ca aa a1 t1 r1 r2 r3⟩ ?_;rintro v h2 ⟨Λ2,w2,s2,e2,a2⟩;exact u v Λ2 h2 w2 (s1.aA s2) e2 (by rw[<-t2];exact a2)
structure ju (N:Nat)(x:gQ):Prop where
 aA:x.aA.length<=21*N
 aE:x.aE.length<=N
 aD:x.aC.length<=130000*N
theorem ju.aC {N N':Nat}(h:ju N x)(hn:N<=N'):ju N' x:=⟨by have:=h.aA;omega,by have:=h.aE;omega,by have:=h.aD;omega⟩
theorem Cg {D:Es}{r:fj}{K:Nat}(h:r.aA.aA.es.length<=K):(gT D r).length<=D.length+K:=by
 unfold gT;split;·simp only[Va,gn,gA,U1];omega
 ·omega
theorem ju.aF {N:Nat}(h:ju N x)(f:y.r.aD K')(hK:K'<=130000)(sa:y.aD 21):ju (N+1) (x.aD k y):=by
 refine⟨?_,?_,?_⟩;·show (x.aA++y.o.aD).length<=_;have:=h.aA;have sa:y.o.aD.length<=21:=sa;simp only[U1];omega
 ·show (if _ then x.aE++[_] else x.aE).length<=_;have:=h.aE;split;·simp only[U1,VW];omega
  ·omega
 ·have:=Cg (D:=x.aC) f.aL;have:=h.aD;show (gT x.aC y.r).length<=_;omega
theorem ib.aI (u:ib c0 B' K' (x.aD k y))(hk:k<x.l.length):y.r.aD K':=by have:=u.aC k (by show k<(x.l.set k y.r).length;simpa using hk);have e:(x.aD k y).l[k]'(by show k<(x.l.set k y.r).length;simpa using hk)=y.r:=WJ ..;rw[e]at this;exact this
theorem lF.aC {P:Program}{ft:FuncId}(ut:lF P ft){Λ:Nat->Nat}{h h':eX}{nb N:Nat}{w:f_}{res:AV}{KK:AV->eX->Prop}(a:fW Λ h nb w (iA x))(ok:ib c0 B K x)(u:ib c0 B' K' (x.aD k y))(hk:k<x.l.length) (ti:ng x x.l[k].aA x.l[k].aF y) (hK:K'<=130000) (bb:ju N x) (hN:N<4000) (te:y.aE 2) (sa:y.aD 21)
  (hr:k<w.rs.length) (b:jU (gB k Λ) h w.rs[k] y res h')
  (C:∀v Λ2 h2 w2,gy Λ h Λ2 h2->w2.rs=w.rs->fW Λ2 h2 nb w2 (iA (x.aD k y))->ju (N+1) (x.aD k y)->KK v h2):mI P ft [.aC nb 9 0 0,.aA .i64 k,res] h' KK:=by
 have f:=u.aI hk;have b1:=bb.aA;have b2:=bb.aE;have b3:=bb.aD;have te':y.o.aC.length<=2:=te;have sa':y.o.aD.length<=21:=sa;have dl:=Cg (D:=x.aC) f.aL;exact ut.aD a ok u hk ti hK (by omega) (by omega) (by omega) (by omega) hr b (λv Λ2 h2 w2 s e a2=>C v Λ2 h2 w2 s e a2 (bb.aF f hK sa))
end
section
variable {F:Nat->Prop} {h:eX} {sz:Nat} {v:AV} {es:List (List AV)}
theorem gC.aH (c:gC F h sz v es){i:Nat}(hi:i<=es.length):∃a,ie sz v none (some (i:Int)) none=some a/\iU h sz a=some (es.take i)/\a.aH=true:=by
 rcases c with⟨rfl,rfl⟩ | ⟨n,off,cap,row,g,rfl,-,h3,h4,h5,-,-,h8⟩;·simp at hi;subst hi;exact⟨.aD,by simp[ie],rfl,rfl⟩
 ·have hc:(i:Int)<=((cap.getD es.length:Nat):Int):=by
   cases cap with
   | none=>simp;omega
   | some c=>have:=h5 c rfl;simp;omega
  refine⟨.aG n sz off i (jk none 0 cap),?_,?_,rfl⟩;·simp only[ie,V0,Vu];rw[U4 ⟨Vd,by omega,by omega,by omega,by omega,hc⟩];simp
  ·simp only[iU,h3];rw[U4 ⟨Vd,Vd,by omega⟩];rw[<-h8,VG,VT hi]
theorem gC.aI (c:gC F h sz v es){i:Nat}(hi:i<=es.length):∃a,ie sz v (some (i:Int)) none none=some a/\iU h sz a=some (es.drop i)/\a.aH=true:=by
 rcases c with⟨rfl,rfl⟩ | ⟨n,off,cap,row,g,rfl,-,h3,h4,h5,-,-,h8⟩;·simp at hi;subst hi;exact⟨.aD,by simp[ie],rfl,rfl⟩
 ·have hc:(es.length:Int)<=((cap.getD es.length:Nat):Int):=by
   cases cap with
   | none=>simp
   | some c=>have:=h5 c rfl;simp;omega
  have cond:True/\0<=(i:Int)/\(i:Int)<=(es.length:Int)/\((es.length:Int)<=(es.length:Int)\/cap.isSome=true)/\(es.length:Int)<=(es.length:Int)/\(es.length:Int)<=((cap.getD es.length:Nat):Int):=⟨Vd,by omega,by omega,.inl (by omega),by omega,hc⟩;by_cases c0:i=0
  ·subst c0;refine⟨.aG n sz off es.length (jk none 0 cap),?_,?_,rfl⟩;·simp only[ie,V0,Vu];rw[U4 cond];simp
   ·simp only[iU,h3];rw[U4 ⟨Vd,Vd,by omega⟩,h8];simp
  ·by_cases c1:i<es.length
   ·refine⟨.aG n sz (off+i) (es.length-i) (jk none i cap),?_,?_,rfl⟩;·simp only[ie,V0,Vu];rw[U4 cond,U6 (by omega),U4 (by omega)];simp
    ·simp only[iU,h3];rw[U4 ⟨Vd,Vd,by omega⟩];have e:es.drop i=((row.drop off).take es.length).drop i:=by rw[h8]
     rw[e,List.drop_take,List.drop_drop]
   ·refine⟨.aM 0 false sz [],?_,?_,rfl⟩;·simp only[ie,V0,Vu];rw[U4 cond,U6 (by omega),U6 (by omega)]
    ·rw[WT (by omega)];simp[iU]
end
theorem fW.aY {Λ:Nat->Nat}{h h':eX}{nb:Nat}{w:f_}{v:i9}(a:fW Λ h nb w v){p:AV}{ms:List fJ}{rows:List (List AV)}(hx:eW eZ h h')(hp:gC (λm=>h.length<=m) h' 17 p rows)(hr:fY (Zs Λ h) h' (ms.map fJ.c) rows):
  ∃Λ',gy Λ h Λ' (h'.set nb (some (.aA 9 [({w with pv:=p}:f_).aA] false)))/\fW Λ' (h'.set nb (some (.aA 9 [({w with pv:=p}:f_).aA] false))) nb {w with pv:=p} {v with aG:=ms}:=by
 have nbl:=(UY.1 a.aA).1;have hl:=hx.1;obtain⟨r1,s1⟩:=a.aS (h':=h'.set nb (some (.aA 9 [({w with pv:=p}:f_).aA] false))) (j:=105) (by omega) (by simp;exact hl) (λm hm _ e=>(UZ (λy=>e y.symm)).trans (hx.2 m hm (λy=>y)));refine⟨_,s1,r1.lt,r1.aC,U5 (by omega),r1.aD,r1.l (by omega),r1.aA,r1.aJ (by omega),r1.aI (by omega),⟨rows,hp.aA (λm hm hlt=>?_) (λm hm hlt=>UZ (λy=>by have:h.length<=m:=hm;omega)),fY.aA s1.zs (λm hm y hy=>?_) _ _ hr⟩,r1.aE (by omega),r1.aH (by omega),r1.aG (by omega),r1.aF (by omega)⟩;·have hm':h.length<=m:=hm;show nu _ _ _ _ m=105;unfold nu;rw[U6 (by omega),U4 (by simpa using hlt)]
 ·have:m≠nb:=λy=>by have:=hm.1;rw[y,a.aC]at this;omega
  exact (UZ (λy=>this y.symm)).trans hy
def gQ.aG (x:gQ)(i:Nat):gQ:={x with aA:=x.aA.take i++x.aA.drop (i+1)}
def gQ.aH (x:gQ)(i:Nat)(m:fJ):gQ:=if h:1<=m.to/\m.to<=5/\(m.to-1).toNat<x.l.length then (x.aG i).aD (m.to-1).toNat (x.l[(m.to-1).toNat].bt m) else x.aG i
def vT (P:Program)(f:FuncId):Prop:=fK P f=true/\∀(Λ:Nat->Nat)(h:eX)(nb N:Nat)(w:f_)(x:gQ)(c0:fq)(B K i:Nat)(hi:i<x.aA.length),fW Λ h nb w (iA x)->ib c0 B K x->ju N x->B<=2^30->K+200<130000->N<4000->
 fC P f [.aC nb 9 0 0,.aA .i64 i] h λ_ h'=>∃Λ' w',gy Λ h Λ' h'/\w'.rs=w.rs/\fW Λ' h' nb w' (iA (x.aH i x.aA[i]))/\ib c0 (B+1) (K+200) (x.aH i x.aA[i])/\ju (N+1) (x.aH i x.aA[i])
theorem LR {P:Program}{f fs ft:FuncId}(hf:Is P f (Ai fs ft))(us:yZ P fs)(ut:lF P ft):vT P f:=by
 refine⟨hf.2,λΛ h nb N w x c0 B K i hi a ok bb hB hK hN=>fS hf ?_⟩;have row:=a.aA;simp only[f_.aA]at row;obtain⟨n0,j,prow,g,e,d,e1,e2,e3,he,hd,e6⟩:=a.aX (i:=i) hi;have jl:=(UY.1 e3).1;have se:=he.aA;have sd:=hd.aA;have bp:=bb.aA;have ip:(i:Int)<2^40:=by have:x.aA.length<=21*N:=bp;omega
 have ew:IntKind.i64.wrap ((i:Int)+1)=((i+1:Nat):Int):=by rw[gj (by omega)];omega
 generalize hm:x.aA[i]=m at *;have C:(iA x).aG[i]'hi=m:=hm;rw[C]at e3 he hd;obtain⟨H,hH⟩:∃H,H=h++[some (e_.aA 17 [m.aD e d] false)]:=⟨_,rfl⟩;have X1:eW eZ h H:=by rw[hH];exact eW.b1 _
 have B1:H[h.length]?=some (some (e_.aA 17 [m.aD e d] false)):=by rw[hH];exact gJ _ _
 have a1:=a.up X1;have s1:gy Λ h Λ H:=gy.up X1;have a5:H.length=h.length+1:=by rw[hH];simp
 have z0:Λ h.length=0:=a.aD (U8 _);simp only[fJ.aD]at e3 hH B1;simp only[Ai,go_sem,row,e1,e2,e3,se,sd];rw[<-hH];clear hH;have u:=X1.aA row;have R1:∀y,(H++[y])[nb]?=_:=λy=>(eW.b1 y).aA u;have nbl:=(UY.1 u).1;obtain⟨rows,p1,p2⟩:=a1.aH;have lrows:rows.length=x.aA.length:=by have:=kM p2;simpa [iA] using this
 obtain⟨H1,U⟩:∃H1,H1=H++[some (e_.aA 17 [] false)]:=⟨_,rfl⟩;have X2:eW eZ H H1:=by rw[U];exact eW.b1 _
 have hl2:H1.length=H.length+1:=by rw[U];simp
 have cz:gC (λm=>H.length<=m) H1 17 (.aG (h.length+1) 17 0 0 (some 0)) []:=.inr ⟨h.length+1,0,some 0,[],false,rfl,by show H.length<=_;omega,by rw[U,<-a5];exact gJ _ _,by simp,(λc hc=>by simp),(λhc=>by cases hc),(λc hc=>by cases hc;simp),rfl⟩;have a4:gC (λm=>Λ m=105) H1 17 w.pv rows:=p1.aA (λ_ y _=>y) (λm _ hlt=>X2.2 m hlt (λy=>y));obtain⟨v1,q1,q2,q3⟩:=a4.aH (i:=i) (by omega);obtain⟨v3,h3,g1,c3,x3⟩:=cz.aC (bytes:=168) (ys:=rows.take i) (eW.aC _ H1) (by simp only[Ve,Va];have:x.aA.length<=21*N:=bp;omega);rw[<-iv q2,U]at g1;have X3:eW eZ H h3:=X2.aJ x3 (λm hm C=>by have:H.length<=m:=C;omega);have p3:gC (λm=>Λ m=105) h3 17 w.pv rows:=p1.aA (λ_ y _=>y) (λm _ hlt=>X3.2 m hlt (λy=>y));obtain⟨v2,r1,r2,r3⟩:=p3.aI (i:=i+1) (by omega);obtain⟨v4,h4,g2,c4,x4⟩:=c3.aC (bytes:=168) (ys:=rows.drop (i+1)) (eW.aC _ h3) (by simp only[Wd,Va,Vo];have:x.aA.length<=21*N:=bp;omega);rw[<-iv r2]at g2;have X4:eW eZ H h4:=X3.aJ x4 (λm hm C=>by have hm'':(H.length<=m/\m<H1.length)\/H1.length<=m:=C;omega);have I:=X4.aA u;have nl4:=(UY.1 I).1;have s4:=c4.aE;have nbh:nb<h.length:=(UY.1 row).1;have N1:∀sz i o,gN (h.length+1) 1 (.aC nb sz i o)=true:=λsz i o=>ig (by omega);have R3:=X3.aA u;have B4:=X4.aA B1;have nne:¬nb=h.length:=by omega
 obtain⟨Λ5,t1,t2⟩:=a1.aY (ms:=x.aA.take i++x.aA.drop (i+1)) (rows:=[]++rows.take i++rows.drop (i+1)) X4 (c4.aA (λm hm _=>by have C:((H.length<=m/\m<H1.length)\/H1.length<=m)/\m<h3.length\/h3.length<=m:=hm;show H.length<=m;have:=X3.1;omega) (λ_ _ _=>rfl)) (by rw[Wd,VJ,Wv,W4];have Z:fY (Zs Λ H) h4 (x.aA.map fJ.c) rows:=fY.aA (λ_ y=>y) (X4.aE _) _ _ p2;exact uB (za Z i) (y_ Z (i+1)));simp only[f_.aA]at t1 t2;obtain⟨H5,W⟩:∃H5,H5=h4.set nb (some (e_.aA 9 [[w.lv,w.hv,w.av,v4,w.dv,w.tv,w.ev,w.qv,.aE false]] false)):=⟨_,rfl⟩;rw[<-W]at t1 t2;have B5:=(t1.z h.length (by omega) z0).trans B1;have t2:fW Λ5 H5 nb {w with pv:=v4} (iA (x.aG i)):=t2;have s5:=s1.aA t1;simp only[go_sem,jh,R1,q1,r1,ew,g1,g2,s4,gz s4,I,N1,R3,<-W,B5];clear W;have bl:ju N (x.aG i):=⟨by have:x.aA.length<=21*N:=bp;show (x.aA.take i++x.aA.drop (i+1)).length<=_;simp only[U1,Va,Vo];omega,bb.aE,bb.aD⟩;have M:∀y∈x.aA.take i++x.aA.drop (i+1),y∈x.aA:=λy hy=>by
  rcases VK.1 hy with hy | hy;·exact VR hy
  ·exact VC hy
 have a2:ib c0 B K (x.aG i):=ok.aF M;have no:¬(1<=m.to/\m.to<=5)->∃Λ' w',gy Λ h Λ' H5/\w'.rs=w.rs/\fW Λ' H5 nb w' (iA (x.aH i m))/\ib c0 (B+1) (K+200) (x.aH i m)/\ju (N+1) (x.aH i m):=by
  intro c;have ec:x.aH i m=x.aG i:=by unfold gQ.aH;rw[dif_neg (λz=>c ⟨z.1,z.2.1⟩)]
  rw[ec];exact⟨Λ5,{w with pv:=v4},s5,rfl,t2,a2.aA (by omega) (by omega),bl.aC (by omega)⟩
 by_cases c1:1<=m.to
 ·by_cases c2:m.to<=5
  ·obtain⟨k,hk⟩:∃k:Nat,m.to=k+1:=⟨(m.to-1).toNat,by omega⟩;have l5:=ok.aE;have O:k<x.l.length:=by omega
   have ec:x.aH i m=(x.aG i).aD k (x.l[k].bt m):=by
    have ek:(m.to-1).toNat=k:=by omega
    unfold gQ.aH;rw[dif_pos ⟨c1,c2,by omega⟩];simp only[ek]
   have a9:IntKind.i64.wrap (m.to-1)=(k:Int):=by rw[gj (by omega)];omega
   have E:=t2.aA;simp only[f_.aA]at E;obtain⟨n1,j1,lrow,lg,r,u1,u2,u3,u4,u5,u6,u7,-,-⟩:=t2.aG (k:=k) O;have ul:=(UY.1 u3).1;have a6:=s5.rd he;have a8:=s5.rd hd;simp only[go_sem,U3 c1,U3 c2,B5,a9,E,u1,u2,u3];have mp:m∈x.aA:=by rw[<-hm];exact Vx _
   have mf:=ok.aH hB mp;obtain⟨o1,o2⟩:=ok.aP hB hK O mp hk M;have f:=ok.aC k O;have ma:kX (gB k Λ5) H5 m (m.aD e d):=⟨Zs Λ5 H5,CG a6 a8,λn hn=>by unfold gB;rw[hn.1];split<;>omega⟩;simp only[fJ.aD]at ma;refine fy ⟨us.1,us.2 (gB k Λ5) H5 r x.l[k] K m _ u5 f (by omega) ma mf⟩ ?_;rintro v h6 ro;obtain⟨hr,er⟩:=UY.1 u4;have z5:Λ5 h.length=0:=(t1.aC h.length (by omega)).trans z0;have ab:h6[h.length]?=H5[h.length]?:=by obtain⟨_,_,_,_,_,_,_,_,_,_,_,hx⟩:=id ro;refine hx.2 h.length (UY.1 B5).1 (λy=>y ?_);unfold gB;rw[z5];split<;>omega
   have B6:=ab.trans B5;simp only[go_sem,B6];have aa:r=({w with pv:=v4}:f_).rs[k]:=er.symm;rw[aa]at ro;refine ut.aC t2 a2 o1 O o2 (by omega) bl hN (RX.aE.aP _ _) (RX.aD.aP _ f.aE _) hr ro (λv7 Λ7 h7 w7 s7 a3 a7 b7=>?_);simp only[go_sem];refine⟨Λ7,w7,s5.aA s7,a3,?_⟩;rw[ec];exact⟨a7,o1,b7⟩
  ·simp only[go_sem,U3 c1,U2 c2,B5];exact no (λz=>c2 z.2)
 ·simp only[go_sem,U2 c1];exact no (λz=>c1 z.1)
end Glb
