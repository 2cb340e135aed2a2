/-
  A library of its own.
-/
import Derived.Test.YtdeiamnhnfmilaaGreatGlbSafB
set_option linter.unusedSimpArgs false
set_option linter.unusedVariables false
set_option maxRecDepth 10000
set_option maxHeartbeats 8000000
namespace Glb
open Go
def gE (F:Nat->Prop)(h:eW)(sz:Nat)(v:AV)(es:List (List AV)):Prop:=
 (v=.aD/\es=[])\/∃n off cap row g,v=.aG n sz off es.length cap/\F n/\h[n]?=some (some (.aA sz row g))/\off+es.length<=row.length/\sZ cap es.length/\(cap=none->off=0)/\(∀c,cap=some c->off+c<=row.length)/\(row.drop off).take es.length=es
theorem rT (F:Nat->Prop)(h:eW)(sz:Nat):Rd F h (.sl sz []) .aD:=by simp only[Rd];exact⟨[],.inl ⟨rfl,rfl⟩,rfl⟩
theorem HV {P:Program}{v:AV}{a b rest:AC}{st:St}{K:AX->St->Prop}(Q:St->Prop)(h1:oZ P v a b st λx s=>x=.aA/\Q s)(h2:∀s,Q s->vc P rest s K):oZ P v a b st (tI P rest K):=by
 have key:∀(c:AC),vc P c st (λx s=>x=.aA/\Q s)->vc P c st (tI P rest K):=λc hc=>oY c (λx s ⟨e,q⟩=>by subst e;exact h2 s q) hc;unfold oZ at h1 ⊢;split at h1;·exact⟨λe=>key _ (h1.1 e),λe=>key _ (h1.2 e)⟩
 ·exact h1.elim
section
variable {F F':Nat->Prop} {h h':eW} {sz:Nat} {v:AV} {es:List (List AV)}
theorem gE.aD:gE F h sz .aD []:=.inl ⟨rfl,rfl⟩
theorem gE.aA (c:gE F h sz v es)(hF:∀m,F m->m<h.length->F' m) (hk:∀m,F m->m<h.length->h'[m]?=h[m]?):gE F' h' sz v es:=by
 rcases c with c | ⟨n,off,cap,row,g,h1,h2,h3,h4⟩;·exact .inl c
 ·have hl:=(Up.1 h3).1;exact .inr ⟨n,off,cap,row,g,h1,hF n h2 hl,(hk n h2 hl).trans h3,h4⟩
theorem gE.aF (c:gE F h sz v es):ik v=some (.aA .i64 es.length):=by rcases c with⟨rfl,rfl⟩ | ⟨n,off,cap,row,g,rfl,-⟩<;>rfl
theorem gE.aE (c:gE F h sz v es):v.aH=true:=by rcases c with⟨rfl,-⟩ | ⟨n,off,cap,row,g,rfl,-⟩<;>rfl
theorem gE.at (c:gE F h sz v es){i:Nat}(hi:i<es.length):∃n off row g,jg sz v (.aA .i64 i)=some (.aC n sz (off+i) 0)/\F n/\h[n]?=some (some (.aA sz row g))/\row[off+i]?=some es[i] /\
  ∀cs,gE F (h.set n (some (.aA sz (row.set (off+i) cs) g))) sz v (es.set i cs):=by
 rcases c with⟨rfl,rfl⟩ | ⟨n,off,cap,row,g,rfl,h2,h3,h4,h5,h6,h7,h8⟩;·simp at hi
 ·have hl:=(Up.1 h3).1;refine⟨n,off,row,g,?_,h2,h3,?_,λcs=>.inr ⟨n,off,cap,_,g,by rw[UA],h2,Ux hl,by rw[UA,UA];exact h4,by rw[UA];exact h5,h6,by rw[UA];exact h7,?_⟩⟩;·simp only[jg];rw[Uv ⟨UF,by omega,by omega⟩];simp
  ·have:es[i]?=((row.drop off).take es.length)[i]?:=by rw[h8]
   rw[Vh hi,UR,Ur hi]at this;exact this.symm
  ·rw[UA];apply Vf;intro j;simp only[Vp,UR,VJ];by_cases c1:j<es.length
   ·rw[Uv c1];by_cases c2:i=j;·subst c2;rw[Uv rfl,Uv (by omega),Uv rfl,Uv hi]
    ·rw[Uw (by omega),Uw c2];have:es[j]?=((row.drop off).take es.length)[j]?:=by rw[h8]
     rw[Vh c1,UR]at this;exact this.symm
   ·rw[Uw c1,Uw (by omega),U8 (by omega)]
theorem gE.aC {h0:eW}{bytes:Nat}{ys:List (List AV)}(c:gE F h0 sz v es)(hx:eV eY h0 h)(hb:(es.length+ys.length)*bytes<=2^46):
  ∃v' h',ij h sz bytes v ys=some (v',h')/\gE (λm=>(F m/\m<h.length)\/h.length<=m) h' sz v' (es++ys)/\eV F h h':=by
 have u:∀(hh:eW) (O:List (List AV)),h.length<=hh.length->gE (λm=>(F m/\m<h.length)\/h.length<=m) (gM hh sz O).2 sz (gM hh sz O).1 O:=by intro hh O hl;exact .inr ⟨hh.length,0,none,O,true,rfl,.inr hl,by simp[gM],by omega,(λc hc=>by cases hc),(λ_=>rfl),(λc hc=>by cases hc),by simp⟩
 rcases c with⟨rfl,rfl⟩ | ⟨n,off,cap,row,g,rfl,hn,M,Z,a3,a2,a1,he⟩;·refine⟨(gM h sz ys).1,(gM h sz ys).2,?_,u h ys (Uy _),eV.aF _ _ _⟩;simp only[ij];rw[Uv (by simpa using hb)]
 ·have hnlt:=(Up.1 M).1;have E:h[n]?=some (some (.aA sz row g)):=hx.aA M;have I:=(Up.1 E).1;simp only[ij,E];rw[Uv ⟨UF,UF,Z,hb⟩];cases cap with
  | none=>obtain rfl:=a2 rfl;simp only[Vm];rw[Vy]at he;refine⟨_,_,rfl,?_,(eV.aI none (λ_=>hn)).aD (eV.aF F _ _) (λ_ _ x=>x) (λ_ _ x=>x)⟩;rw[he];exact u _ _ (by simp)
  | some c=>
   have hc1:=a3 c rfl;have a7:=a1 c rfl;cases c with
   | zero=>
    have a5:es=[]:=Uz (by omega);subst a5;simp only[UJ,Vm];by_cases hy0:ys.length=0;·rw[Uv hy0];have a4:ys=[]:=Uz hy0;subst a4;exact⟨_,_,rfl,.inr ⟨n,off,some 0,row,g,rfl,.inl ⟨hn,I⟩,E,Z,a3,a2,a1,he⟩,eV.aC _ _⟩
    ·rw[Uw hy0];exact⟨(gM h sz ys).1,(gM h sz ys).2,rfl,u h ys (Uy _),eV.aF _ _ _⟩
   | succ c=>
    simp only;by_cases hcap:c+1<es.length+ys.length;·rw[Uv hcap,he];exact⟨_,_,rfl,u _ _ (Uy _),eV.aF _ _ _⟩
    ·rw[Uw hcap,Uv (by omega)];have W:(gZ row (off+es.length) ys).length=row.length:=by simp[gZ];omega
     refine⟨_,_,rfl,.inr ⟨n,off,some (c+1),gZ row (off+es.length) ys,g,by rw[Ut],.inl ⟨hn,I⟩,by rw[Ux I],by rw[W,Ut];omega,
      (λc' U=>by cases U;rw[Ut];omega),(λe=>by cases e),(λc' U=>by cases U;rw[W];exact a7),?_⟩,eV.aI _ (λ_=>hn)⟩
     apply Vf;intro i;have a6:∀i,i<es.length->row[off+i]?=es[i]?:=λi hi=>by
      have:es[i]?=((row.drop off).take es.length)[i]?:=by rw[he]
      rw[this,Vh hi,UR]
     simp only[Vp,UR,Ut,gZ,Vu,UD,Ut];rw[show min (off+es.length) row.length=off+es.length by omega];by_cases h1:i<es.length;·rw[Uv (by omega),Uv (by omega),Uv (by omega),Uv (by omega),Uv h1];exact a6 i h1
     ·by_cases h2:i<es.length+ys.length
      ·rw[Uv h2,Uv (by omega),Uw (by omega),Uw h1];congr 1;omega
      ·rw[Uw h2,Uw h1,U8 (by omega)]
end
structure iZ where
 l:List eZ
 aE:List fF
 aC:List Int
 aG:List fE
 aA:List fT
 aD:List Int
 aF:List Int
 aH:List Int
structure fX where
 lv:AV
 hv:AV
 av:AV
 pv:AV
 dv:AV
 tv:AV
 ev:AV
 qv:AV
 rs:List Nat
def fX.aA (w:fX):List AV:=[w.lv,w.hv,w.av,w.pv,w.dv,w.tv,w.ev,w.qv,.aE false]
def gR (k:Nat)(Λ:Nat->Nat):Nat->Nat:=λm=>if Λ m / 10=k+1 then Λ m % 10 else 0
def hP (l:List Int):List (List AV):=l.map λn=>[AV.aA .i64 n]
def Zs (Λ:Nat->Nat)(h:eW):Nat->Prop:=λm=>Λ m=0/\m<h.length
structure fW (Λ:Nat->Nat)(h:eW)(nb:Nat)(w:fX)(v:iZ):Prop where
 lt:∀m,Λ m≠0->m<h.length
 aC:Λ nb=101
 aA:h[nb]?=some (some (.aA 9 [w.aA] false))
 aD:w.rs.length=v.l.length/\v.l.length<=5
 l:gE (λm=>Λ m=102) h 1 w.lv (w.rs.map λr=>[.aC r 21 0 0])
 aF:∀k (h1:k<w.rs.length) (h2:k<v.l.length),iN (gR k Λ) h w.rs[k] v.l[k]
 aL:∃rows,gE (λm=>Λ m=103) h 2 w.hv rows/\fY (Zs Λ h) h (v.aE.map λx=>(iW x).c) rows
 aK:gE (λm=>Λ m=104) h 1 w.av (hP v.aC)
 aG:∃rows,gE (λm=>Λ m=105) h 17 w.pv rows/\fY (Zs Λ h) h (v.aG.map fE.c) rows
 aH:∃rows,gE (λm=>Λ m=106) h 3 w.dv rows/\fY (Zs Λ h) h (v.aA.map fT.c) rows
 aO:gE (λm=>Λ m=107) h 1 w.tv (hP v.aD)
 aJ:gE (λm=>Λ m=108) h 1 w.ev (hP v.aF)
 aM:gE (λm=>Λ m=109) h 1 w.qv (hP v.aH)
section
variable {Λ Λ':Nat->Nat} {h h':eW} {nb:Nat} {w:fX} {v:iZ}
theorem fW.aY (a:fW Λ h nb w v)(hl:h.length<=h'.length)(he:∀m,m<h.length->Λ' m=Λ m)(hlt:∀m,Λ' m≠0->m<h'.length) (hk:∀m,m<h.length->Λ m<110->h'[m]?=h[m]?) (u:∀m,h.length<=m->Λ' m=0\/110<=Λ' m):fW Λ' h' nb w v:=by
 have nbl:=(Up.1 a.aA).1;have z:∀m,Zs Λ h m->Zs Λ' h' m:=λm hm=>⟨(he m hm.2).trans hm.1,UM hm.2 hl⟩;have kz:gS (Zs Λ h) h h':=λm hm y hy=>(hk m hm.2 (by rw[hm.1];omega)).trans hy;have cc:∀{j sz:Nat}{b:AV} {es:List (List AV)},j<110->gE (λm=>Λ m=j) h sz b es->gE (λm=>Λ' m=j) h' sz b es:=λhj c=>c.aA (λm hm hlt=>(he m hlt).trans hm) (λm hm hlt=>hk m hlt (by have hm':Λ m=_:=hm;omega));obtain⟨hr,h1,h2⟩:=a.aL;obtain⟨pr,p1,p2⟩:=a.aG;obtain⟨dr,d1,d2⟩:=a.aH;refine⟨hlt,(he nb nbl).trans a.aC,(hk nb nbl (by rw[a.aC];omega)).trans a.aA,a.aD,cc (by omega) a.l,λk k1 k2=>?_,⟨hr,cc (by omega) h1,fY.aA z kz _ _ h2⟩,cc (by omega) a.aK,⟨pr,cc (by omega) p1,fY.aA z kz _ _ p2⟩,⟨dr,cc (by omega) d1,fY.aA z kz _ _ d2⟩,cc (by omega) a.aO,cc (by omega) a.aJ,cc (by omega) a.aM⟩;have m0:=a.aF k k1 k2;have e:gR k Λ'=gR k Λ:=by
  funext m
  by_cases c:m<h.length
  ·unfold gR;rw[he m c]
  ·have:k<5:=by have:=a.aD;omega
   have e0:gR k Λ' m=0:=by unfold gR;rcases u m (by omega) with z | z<;>(split<;>omega)
   rw[e0];have:Λ m=0:=UC λy=>c (a.lt m y);unfold gR;rw[this];simp
 rw[e];refine m0.aC hl (λm hm=>hk m (m0.aA m hm).1 ?_);have:k<5:=by have:=a.aD;omega
 unfold gR at hm;split at hm;·omega
 ·exact absurd rfl hm
theorem fW.up (a:fW Λ h nb w v)(hx:eV eY h h'):fW Λ h' nb w v:=by
 have z:∀m,h.length<=m->Λ m=0:=λm hm=>UC λy=>by have:=a.lt m y;omega
 refine a.aY hx.1 (λ_ _=>rfl) (λm hm=>UM (a.lt m hm) hx.1) (λm hm _=>hx.2 m hm (λy=>y)) (λm hm=>.inl (z m hm))
def mH (k:Nat)(Λ:Nat->Nat)(n:Nat)(L':Nat->Nat):Nat->Nat:=λm=>if m<n then Λ m else if L' m=0 then 0 else 10*(k+1)+L' m
theorem fW.bC {k:Nat}{R:eZ}{L':Nat->Nat}(a:fW Λ h nb w v)(hk5:k<w.rs.length)(hkl:k<v.l.length) (m':iN L' h' w.rs[k] R) (e:∀m,m<h.length->L' m=gR k Λ m) (hx:eV (λm=>wA (gR k Λ m)) h h'):
  fW (mH k Λ h.length L') h' nb w {v with l:=v.l.set k R}/\(∀m,m<h.length->mH k Λ h.length L' m=Λ m)/\(∀m,h.length<=m->L' m=0->mH k Λ h.length L' m=0):=by
 have old:∀m,m<h.length->mH k Λ h.length L' m=Λ m:=λm hm=>Uv hm;have hl:=hx.1;have nbl:=(Up.1 a.aA).1;have small:∀m,L' m≠0->L' m<10:=λm hm=>by have:=(m'.aA m hm).2;omega
 have pk:∀m,gR k (mH k Λ h.length L') m=L' m:=by
  intro m;by_cases c:m<h.length;·unfold gR;rw[old m c];exact (e m c).symm
  ·unfold gR mH;rw[Uw c];by_cases c2:L' m=0;·rw[Uv c2,c2];simp
   ·rw[Uw c2];have:=small m c2;rw[Uv (by omega)];omega
 have pj:∀j,j≠k->gR j (mH k Λ h.length L')=gR j Λ:=by
  intro j hj;funext m;by_cases c:m<h.length;·unfold gR;rw[old m c]
  ·have z:Λ m=0:=UC λy=>c (a.lt m y);unfold gR mH;rw[Uw c,z];by_cases c2:L' m=0;·rw[Uv c2]
   ·rw[Uw c2];have:=small m c2;rw[Uw (by omega)];simp
 have ke:∀m,m<h.length->Λ m / 10≠k+1->h'[m]?=h[m]?:=λm hm hq=>hx.2 m hm (λy=>y (by unfold gR;rw[Uw hq]));have k5:k<5:=by have:=a.aD;omega
 have z:∀m,Zs Λ h m->Zs (mH k Λ h.length L') h' m:=λm hm=>⟨(old m hm.2).trans hm.1,UM hm.2 hl⟩;have kz:gS (Zs Λ h) h h':=λm hm y hy=>(ke m hm.2 (by rw[hm.1];omega)).trans hy;have cc:∀{j sz:Nat}{b:AV} {es:List (List AV)},100<=j->gE (λm=>Λ m=j) h sz b es->gE (λm=>mH k Λ h.length L' m=j) h' sz b es:=λhj c=>c.aA (λm hm hlt=>(old m hlt).trans hm) (λm hm hlt=>ke m hlt (by omega));obtain⟨hr,h1,h2⟩:=a.aL;obtain⟨pr,p1,p2⟩:=a.aG;obtain⟨dr,d1,d2⟩:=a.aH;refine⟨⟨λm hm=>?_,(old nb nbl).trans a.aC,(ke nb nbl (by rw[a.aC];omega)).trans a.aA,⟨by rw[UA];exact a.aD.1,by rw[UA];exact a.aD.2⟩,cc (by omega) a.l,λj j1 j2=>?_,⟨hr,cc (by omega) h1,fY.aA z kz _ _ h2⟩,cc (by omega) a.aK,⟨pr,cc (by omega) p1,fY.aA z kz _ _ p2⟩,⟨dr,cc (by omega) d1,fY.aA z kz _ _ d2⟩,cc (by omega) a.aO,cc (by omega) a.aJ,cc (by omega) a.aM⟩,old,λm hm h0=>?_⟩
 ·by_cases c:m<h.length
  ·exact UM c hl
  ·unfold mH at hm;rw[Uw c]at hm;by_cases c2:L' m=0;·rw[Uv c2]at hm;exact absurd rfl hm
   ·exact (m'.aA m c2).1
 ·have u:j<v.l.length:=by simpa using j2
  have gs:(v.l.set k R)[j]'j2=if k=j then R else v.l[j]:=List.getElem_set j2
  rw[gs];by_cases c:k=j;·subst c;rw[Uv rfl];have:gR k (mH k Λ h.length L')=L':=funext pk;rw[this];exact m'
  ·rw[Uw c,pj j (λy=>c y.symm)];have m0:=a.aF j j1 u;refine m0.aC hl (λm hm=>ke m (m0.aA m hm).1 ?_);unfold gR at hm;split at hm;·omega
   ·exact absurd rfl hm
 ·unfold mH;rw[Uw (by omega),Uv h0]
end
structure Dx (j:Nat)(Λ:Nat->Nat)(h:eW)(nb:Nat)(w:fX)(v:iZ):Prop where
 lt:∀m,Λ m≠0->m<h.length
 aC:Λ nb=101
 aD:w.rs.length=v.l.length/\v.l.length<=5
 l:j≠102->gE (λm=>Λ m=102) h 1 w.lv (w.rs.map λr=>[.aC r 21 0 0])
 aA:∀k (h1:k<w.rs.length) (h2:k<v.l.length),iN (gR k Λ) h w.rs[k] v.l[k]
 aJ:j≠103->∃rows,gE (λm=>Λ m=103) h 2 w.hv rows/\fY (Zs Λ h) h (v.aE.map λx=>(iW x).c) rows
 aI:j≠104->gE (λm=>Λ m=104) h 1 w.av (hP v.aC)
 aK:j≠105->∃rows,gE (λm=>Λ m=105) h 17 w.pv rows/\fY (Zs Λ h) h (v.aG.map fE.c) rows
 aE:j≠106->∃rows,gE (λm=>Λ m=106) h 3 w.dv rows/\fY (Zs Λ h) h (v.aA.map fT.c) rows
 aH:j≠107->gE (λm=>Λ m=107) h 1 w.tv (hP v.aD)
 aG:j≠108->gE (λm=>Λ m=108) h 1 w.ev (hP v.aF)
 aF:j≠109->gE (λm=>Λ m=109) h 1 w.qv (hP v.aH)
 z:∀m,Zs Λ h m->True
structure gA (Λ:Nat->Nat)(h:eW)(Λ':Nat->Nat)(h':eW):Prop where
 aD:h.length<=h'.length
 aC:∀m,m<h.length->Λ' m=Λ m
 z:∀m,m<h.length->Λ m=0->h'[m]?=h[m]?
 aF:∀m,m<h.length->110<=Λ m->h'[m]?=h[m]?
theorem gA.aG (Λ h):gA Λ h Λ h:=⟨Uy _,λ_ _=>rfl,λ_ _ _=>rfl,λ_ _ _=>rfl⟩
theorem gA.aA {Λ h Λ1 h1 Λ2 h2}(a:gA Λ h Λ1 h1)(b:gA Λ1 h1 Λ2 h2):gA Λ h Λ2 h2:=
 ⟨UH a.aD b.aD,λm hm=>(b.aC m (UM hm a.aD)).trans (a.aC m hm),λm hm e=>(b.z m (UM hm a.aD) ((a.aC m hm).trans e)).trans (a.z m hm e),λm hm e=>(b.aF m (UM hm a.aD) (by rw[a.aC m hm];exact e)).trans (a.aF m hm e)⟩
theorem gA.up {Λ h h'}(hx:eV eY h h'):gA Λ h Λ h':=⟨hx.1,λ_ _=>rfl,λm hm _=>hx.2 m hm (λy=>y),λm hm _=>hx.2 m hm (λy=>y)⟩
theorem gA.zs {Λ h Λ' h'}(a:gA Λ h Λ' h'):∀m,Zs Λ h m->Zs Λ' h' m:=λm hm=>⟨(a.aC m hm.2).trans hm.1,UM hm.2 a.aD⟩
theorem gA.kz {Λ h Λ' h'}(a:gA Λ h Λ' h'):gS (Zs Λ h) h h':=λm hm y hy=>(a.z m hm.2 hm.1).trans hy
theorem gA.rd {Λ h Λ' h' d x}(a:gA Λ h Λ' h')(hr:Rd (Zs Λ h) h d x):Rd (Zs Λ' h') h' d x:=Rd.aD a.zs a.kz _ _ hr
theorem gA.aE {Λ h Λ' h' d x}(a:gA Λ h Λ' h')(hr:fm (Zs Λ h) h d x):fm (Zs Λ' h') h' d x:=fm.aA a.zs a.kz _ _ hr
def kL (Λ:Nat->Nat)(n n' j:Nat):Nat->Nat:=λm=>if m<n then Λ m else if m<n' then j else 0
section
variable {Λ:Nat->Nat} {h h':eW} {nb:Nat} {w:fX} {v:iZ}
theorem fW.aE (a:fW Λ h nb w v){m:Nat}(hm:h.length<=m):Λ m=0:=UC λy=>by have:=a.lt m y;omega
theorem fW.aQ (a:fW Λ h nb w v){j:Nat}(hj:102<=j/\j<=109)(hl:h.length<=h'.length) (hk:∀m,m<h.length->Λ m≠j->m≠nb->h'[m]?=h[m]?):Dx j (kL Λ h.length h'.length j) h' nb w v/\gA Λ h (kL Λ h.length h'.length j) h':=by
 have nbl:=(Up.1 a.aA).1;have old:∀m,m<h.length->kL Λ h.length h'.length j m=Λ m:=λm hm=>Uv hm;have sm:gA Λ h (kL Λ h.length h'.length j) h':=⟨hl,old,λm hm e=>hk m hm (by omega) (λy=>by rw[y,a.aC]at e;omega),λm hm e=>hk m hm (by omega) (λy=>by rw[y,a.aC]at e;omega)⟩;have cc:∀{i sz:Nat}{b:AV} {es:List (List AV)},j≠i->i≠101->gE (λm=>Λ m=i) h sz b es->gE (λm=>kL Λ h.length h'.length j m=i) h' sz b es:=λhi h1 c=>c.aA (λm hm hlt=>(old m hlt).trans hm) (λm hm hlt=>hk m hlt (by omega) (λy=>by rw[y,a.aC]at hm;omega));refine⟨⟨λm hm=>?_,(old nb nbl).trans a.aC,a.aD,λc=>cc c (by omega) a.l,λk k1 k2=>?_,λc=>?_,λc=>cc c (by omega) a.aK,λc=>?_,λc=>?_,λc=>cc c (by omega) a.aO,λc=>cc c (by omega) a.aJ,λc=>cc c (by omega) a.aM,λ_ _=>UF⟩,sm⟩
 ·by_cases c:m<h.length
  ·omega
  ·unfold kL at hm;rw[Uw c]at hm;by_cases c2:m<h'.length;·exact c2
   ·rw[Uw c2]at hm;exact absurd rfl hm
 ·have m0:=a.aF k k1 k2;have k5:k<5:=by have:=a.aD;omega
  have e:gR k (kL Λ h.length h'.length j)=gR k Λ:=by
   funext m
   by_cases c:m<h.length
   ·unfold gR;rw[old m c]
   ·have z:=a.aE (m:=m) (by omega);unfold gR kL;rw[z,Uw c];split<;>split<;>first | rfl | omega | simp
  rw[e];refine m0.aC hl (λm hm=>?_);have u:=(m0.aA m hm).1;unfold gR at hm;split at hm;·exact hk m u (by omega) (λy=>by rename_i c;rw[y,a.aC]at c;omega)
  ·exact absurd rfl hm
 ·obtain⟨rows,h1,h2⟩:=a.aL;exact⟨rows,cc c (by omega) h1,fY.aA sm.zs sm.kz _ _ h2⟩
 ·obtain⟨rows,h1,h2⟩:=a.aG;exact⟨rows,cc c (by omega) h1,fY.aA sm.zs sm.kz _ _ h2⟩
 ·obtain⟨rows,h1,h2⟩:=a.aH;exact⟨rows,cc c (by omega) h1,fY.aA sm.zs sm.kz _ _ h2⟩
theorem fW.aP (a:fW Λ h nb w v){h2:eW}(hx:eV eY h h2){j sz bytes:Nat}(hj:102<=j/\j<=109){x:AV}{es ys:List (List AV)}(c:gE (λm=>Λ m=j) h sz x es)(hb:(es.length+ys.length)*bytes<=2^46):
  ∃x' h3,ij h2 sz bytes x ys=some (x',h3)/\x'.aH=true/\h3[nb]?=some (some (.aA 9 [w.aA] false))/\nb<h3.length/\∀r:List AV,∃Λ',Dx j Λ' (h3.set nb (some (.aA 9 [r] false))) nb w v/\gA Λ h Λ' (h3.set nb (some (.aA 9 [r] false)))/\gA Λ h2 Λ' (h3.set nb (some (.aA 9 [r] false))) /\
   gE (λm=>Λ' m=j) (h3.set nb (some (.aA 9 [r] false))) sz x' (es++ys)/\(h3.set nb (some (.aA 9 [r] false)))[nb]?=some (some (.aA 9 [r] false)):=by
 have a2:=a.up hx;have E:=(Up.1 a2.aA).1;obtain⟨x',h3,e1,c3,X3⟩:=c.aC (bytes:=bytes) (ys:=ys) hx hb;have Z:=X3.1;have M:h3[nb]?=some (some (.aA 9 [w.aA] false)):=(X3.2 nb E (λy=>by have y':Λ nb=j:=y;rw[a.aC]at y';omega)).trans a2.aA;have u:nb<h3.length:=by omega
 refine⟨x',h3,e1,c3.aE,M,u,λr=>⟨kL Λ h2.length (h3.set nb (some (.aA 9 [r] false))).length j,?_⟩⟩;obtain⟨r1,s1⟩:=a2.aQ (h':=h3.set nb (some (.aA 9 [r] false))) hj (by rw[UA];exact Z) (λm hm O U=>by rw[Uq (λe=>U e.symm)];exact X3.2 m hm O);refine⟨r1,(gA.up hx).aA s1,s1,c3.aA (λm hm hlt=>?_) (λm hm hlt=>?_),Ux u⟩
 ·rw[UA];unfold kL;rcases hm with⟨hm,I⟩ | hm;·rw[Uv I];exact hm
  ·rw[Uw (by omega),Uv hlt]
 ·refine Uq (λe=>?_);rcases hm with⟨hm,I⟩ | hm;·have W:Λ m=j:=hm;rw[<-e,a.aC]at W;omega
  ·omega
theorem fW.aW (a:fW Λ h nb w v){h2:eW}(hx:eV eY h h2){ms:List fE}{ys:List (List AV)}(hy:fY (Zs Λ h2) h2 (ms.map fE.c) ys)(hb:(v.aG.length+ms.length)*200<=2^46){bytes:Nat}(u:bytes<=200):
  ∃x' h3,ij h2 17 bytes w.pv ys=some (x',h3)/\x'.aH=true/\h3[nb]?=some (some (.aA 9 [w.aA] false))/\nb<h3.length/\∃Λ',gA Λ h Λ' (h3.set nb (some (.aA 9 [({w with pv:=x'}:fX).aA] false)))/\fW Λ' (h3.set nb (some (.aA 9 [({w with pv:=x'}:fX).aA] false))) nb {w with pv:=x'} {v with aG:=v.aG++ms}:=by
 obtain⟨rows,p1,p2⟩:=a.aG;have l1:=lF p2;have l2:=lF hy;simp only[UI]at l1 l2;obtain⟨x',h3,e1,sc,n3,e,f⟩:=a.aP hx (bytes:=bytes) (ys:=ys) (by omega) p1 (by rw[l1,l2];exact UH (Nat.mul_le_mul_left _ u) hb);obtain⟨Λ',r1,s1,s2,c1,row⟩:=f ({w with pv:=x'}:fX).aA;refine⟨x',h3,e1,sc,n3,e,Λ',s1,r1.lt,r1.aC,row,r1.aD,r1.l (by omega),r1.aA,r1.aJ (by omega),r1.aI (by omega),⟨_,c1,?_⟩,r1.aE (by omega),r1.aH (by omega),r1.aG (by omega),r1.aF (by omega)⟩;show fY _ _ ((v.aG++ms).map fE.c) _;rw[Ve];exact uy (fY.aA s1.zs s1.kz _ _ p2) (fY.aA s2.zs s2.kz _ _ hy)
theorem fW.bw (a:fW Λ h nb w v){h2:eW}(hx:eV eY h h2){en:fT}{cs:List AV}(hy:fm (Zs Λ h2) h2 en.c cs)(hb:v.aA.length<=2^30){bytes:Nat}(u:bytes<=200):
  ∃x' h3,ij h2 3 bytes w.dv [cs]=some (x',h3)/\x'.aH=true/\h3[nb]?=some (some (.aA 9 [w.aA] false))/\nb<h3.length/\∃Λ',gA Λ h Λ' (h3.set nb (some (.aA 9 [({w with dv:=x'}:fX).aA] false)))/\fW Λ' (h3.set nb (some (.aA 9 [({w with dv:=x'}:fX).aA] false))) nb {w with dv:=x'} {v with aA:=v.aA++[en]}:=by
 obtain⟨rows,p1,p2⟩:=a.aH;have l1:=lF p2;simp only[UI]at l1;obtain⟨x',h3,e1,sc,n3,e,f⟩:=a.aP hx (bytes:=bytes) (ys:=[cs]) (by omega) p1 (by rw[l1];have:(v.aA.length+1)*bytes<=(2^30+1)*200:=Nat.mul_le_mul (by omega) u;exact UH this (by decide));obtain⟨Λ',r1,s1,s2,c1,row⟩:=f ({w with dv:=x'}:fX).aA;refine⟨x',h3,e1,sc,n3,e,Λ',s1,r1.lt,r1.aC,row,r1.aD,r1.l (by omega),r1.aA,r1.aJ (by omega),r1.aI (by omega),r1.aK (by omega),⟨_,c1,?_⟩,r1.aH (by omega),r1.aG (by omega),r1.aF (by omega)⟩;show fY _ _ ((v.aA++[en]).map fT.c) _;rw[Ve];exact uy (fY.aA s1.zs s1.kz _ _ p2) (by simp only[U5,Vl,fY];exact⟨_,_,rfl,s2.aE hy,rfl⟩)
theorem fW.bB (a:fW Λ h nb w v){h2:eW}(hx:eV eY h h2)(n:Int)(hb:v.aD.length<=2^30):
  ∃x' h3,ij h2 1 8 w.tv [[.aA .i64 n]]=some (x',h3)/\x'.aH=true/\h3[nb]?=some (some (.aA 9 [w.aA] false))/\nb<h3.length/\∃Λ',gA Λ h Λ' (h3.set nb (some (.aA 9 [({w with tv:=x'}:fX).aA] false)))/\fW Λ' (h3.set nb (some (.aA 9 [({w with tv:=x'}:fX).aA] false))) nb {w with tv:=x'} {v with aD:=v.aD++[n]}:=by
 obtain⟨x',h3,e1,sc,n3,e,f⟩:=a.aP hx (bytes:=8) (ys:=[[.aA .i64 n]]) (j:=107) (by omega) a.aO (by simp only[hP,UI,Vn];omega);obtain⟨Λ',r1,s1,s2,c1,row⟩:=f ({w with tv:=x'}:fX).aA;have c2:gE (λm=>Λ' m=107) (h3.set nb (some (.aA 9 [({w with tv:=x'}:fX).aA] false))) 1 x' (hP (v.aD++[n])):=by
  have:hP (v.aD++[n])=hP v.aD++[[.aA .i64 n]]:=by simp[hP]
  rw[this];exact c1
 refine⟨x',h3,e1,sc,n3,e,Λ',s1,r1.lt,r1.aC,row,r1.aD,r1.l (by omega),r1.aA,r1.aJ (by omega),r1.aI (by omega),r1.aK (by omega),r1.aE (by omega),?_,?_,?_⟩;·first | exact c2 | exact r1.then' (by omega)
 ·first | exact c2 | exact r1.aG (by omega)
 ·first | exact c2 | exact r1.aF (by omega)
theorem fW.bA (a:fW Λ h nb w v){h2:eW}(hx:eV eY h h2)(n:Int)(hb:v.aF.length<=2^30):
  ∃x' h3,ij h2 1 8 w.ev [[.aA .i64 n]]=some (x',h3)/\x'.aH=true/\h3[nb]?=some (some (.aA 9 [w.aA] false))/\nb<h3.length/\∃Λ',gA Λ h Λ' (h3.set nb (some (.aA 9 [({w with ev:=x'}:fX).aA] false)))/\fW Λ' (h3.set nb (some (.aA 9 [({w with ev:=x'}:fX).aA] false))) nb {w with ev:=x'} {v with aF:=v.aF++[n]}:=by
 obtain⟨x',h3,e1,sc,n3,e,f⟩:=a.aP hx (bytes:=8) (ys:=[[.aA .i64 n]]) (j:=108) (by omega) a.aJ (by simp only[hP,UI,Vn];omega);obtain⟨Λ',r1,s1,s2,c1,row⟩:=f ({w with ev:=x'}:fX).aA;have c2:gE (λm=>Λ' m=108) (h3.set nb (some (.aA 9 [({w with ev:=x'}:fX).aA] false))) 1 x' (hP (v.aF++[n])):=by
  have:hP (v.aF++[n])=hP v.aF++[[.aA .i64 n]]:=by simp[hP]
  rw[this];exact c1
 refine⟨x',h3,e1,sc,n3,e,Λ',s1,r1.lt,r1.aC,row,r1.aD,r1.l (by omega),r1.aA,r1.aJ (by omega),r1.aI (by omega),r1.aK (by omega),r1.aE (by omega),?_,?_,?_⟩;·first | exact c2 | exact r1.aH (by omega)
 ·first | exact c2 | exact r1.terms (by omega)
 ·first | exact c2 | exact r1.aF (by omega)
theorem fW.bz (a:fW Λ h nb w v){h2:eW}(hx:eV eY h h2)(n:Int)(hb:v.aH.length<=2^30):
  ∃x' h3,ij h2 1 8 w.qv [[.aA .i64 n]]=some (x',h3)/\x'.aH=true/\h3[nb]?=some (some (.aA 9 [w.aA] false))/\nb<h3.length/\∃Λ',gA Λ h Λ' (h3.set nb (some (.aA 9 [({w with qv:=x'}:fX).aA] false)))/\fW Λ' (h3.set nb (some (.aA 9 [({w with qv:=x'}:fX).aA] false))) nb {w with qv:=x'} {v with aH:=v.aH++[n]}:=by
 obtain⟨x',h3,e1,sc,n3,e,f⟩:=a.aP hx (bytes:=8) (ys:=[[.aA .i64 n]]) (j:=109) (by omega) a.aM (by simp only[hP,UI,Vn];omega);obtain⟨Λ',r1,s1,s2,c1,row⟩:=f ({w with qv:=x'}:fX).aA;have c2:gE (λm=>Λ' m=109) (h3.set nb (some (.aA 9 [({w with qv:=x'}:fX).aA] false))) 1 x' (hP (v.aH++[n])):=by
  have:hP (v.aH++[n])=hP v.aH++[[.aA .i64 n]]:=by simp[hP]
  rw[this];exact c1
 refine⟨x',h3,e1,sc,n3,e,Λ',s1,r1.lt,r1.aC,row,r1.aD,r1.l (by omega),r1.aA,r1.aJ (by omega),r1.aI (by omega),r1.aK (by omega),r1.aE (by omega),?_,?_,?_⟩;·first | exact c2 | exact r1.aH (by omega)
 ·first | exact c2 | exact r1.aG (by omega)
 ·first | exact c2 | exact r1.leads (by omega)
end
theorem DH {F:Nat->Prop}{h:eW}:∀{ds:List (List D)} {es:List (List AV)} (j:Nat) {d:List D} {cs:List AV},fY F h ds es->fm F h d cs->fY F h (ds.set j d) (es.set j cs)
 | [],es,j,d,cs,hh,hd=>by simp only[fY]at hh;subst hh;simp[fY]
 | e :: ds,es,0,d,cs,hh,hd=>by simp only[fY]at hh;obtain⟨a,r,rfl,h1,h2⟩:=hh;exact⟨_,_,rfl,hd,h2⟩
 | e :: ds,es,j+1,d,cs,hh,hd=>by simp only[fY]at hh;obtain⟨a,r,rfl,h1,h2⟩:=hh;exact⟨_,_,rfl,h1,DH j h2 hd⟩
section
variable {Λ:Nat->Nat} {h h':eW} {nb:Nat} {w:fX} {v:iZ}
theorem fW.aR (a:fW Λ h nb w v){k:Nat}(hk:k<v.aC.length):∃n0 j row g,jg 1 w.av (.aA .i64 k)=some (.aC n0 1 j 0)/\h[n0]?=some (some (.aA 1 row g))/\row[j]?=some [.aA .i64 v.aC[k]]/\n0≠nb/\n0<h.length/\Λ n0≠0 /\
  ∀n:Int,∃Λ',gA Λ h Λ' (h.set n0 (some (.aA 1 (row.set j [.aA .i64 n]) g)))/\fW Λ' (h.set n0 (some (.aA 1 (row.set j [.aA .i64 n]) g))) nb w {v with aC:=v.aC.set k n}:=by
 obtain⟨n0,off,row,g,e1,e2,e3,e4,f⟩:=a.aK.at (i:=k) (by simpa [hP] using hk);have hn:=(Up.1 e3).1;have e2':Λ n0=104:=e2;have nn:n0≠nb:=λy=>by rw[y,a.aC]at e2';omega
 refine⟨n0,off+k,row,g,e1,e3,by rw[e4];simp[hP],nn,hn,by omega,λn=>?_⟩;obtain⟨r1,s1⟩:=a.aQ (h':=h.set n0 (some (.aA 1 (row.set (off+k) [.aA .i64 n]) g))) (j:=104) (by omega) (by simp) (λm hm hne _=>Uq (λy=>hne (by rw[<-y];exact e2')));refine⟨_,s1,r1.lt,r1.aC,(Uq nn).trans a.aA,r1.aD,r1.l (by omega),r1.aA,r1.aJ (by omega),?_,r1.aK (by omega),r1.aE (by omega),r1.aH (by omega),r1.aG (by omega),r1.aF (by omega)⟩;have:=f [.aA .i64 n];have e:hP (v.aC.set k n)=(hP v.aC).set k [.aA .i64 n]:=by simp[hP,List.map_set]
 show gE _ _ 1 w.av (hP (v.aC.set k n));rw[e];exact this.aA (λm hm hlt=>(s1.aC m (by simpa using hlt)).trans hm) (λ_ _ _=>rfl)
theorem fW.aS (a:fW Λ h nb w v){k:Nat}(hk:k<v.aE.length):∃n0 j row g x y,jg 2 w.hv (.aA .i64 k)=some (.aC n0 2 j 0)/\h[n0]?=some (some (.aA 2 row g))/\row[j]?=some [x,y]/\fm (Zs Λ h) h (iW v.aE[k]).c [x,y]/\n0≠nb/\n0<h.length/\Λ n0≠0 /\
  ∀(q:fF)(x' y':AV),fm eY h (iW q).c [x',y']->∃Λ',gA Λ h Λ' (h.set n0 (some (.aA 2 (row.set j [x',y']) g)))/\fW Λ' (h.set n0 (some (.aA 2 (row.set j [x',y']) g))) nb w {v with aE:=v.aE.set k q}:=by
 obtain⟨rows,p1,p2⟩:=a.aL;have hl:=lF p2;simp only[UI]at hl;obtain⟨n0,off,row,g,e1,e2,e3,e4,f⟩:=p1.at (i:=k) (by omega);have hn:=(Up.1 e3).1;have e:Λ n0=103:=e2;have nn:n0≠nb:=λy=>by rw[y,a.aC]at e;omega
 obtain⟨cs,c1,c2⟩:=sH p2 k ((iW v.aE[k]).c) (by rw[U_,Ur hk];rfl);rw[Ur (by omega)]at c1;injection c1 with c1;obtain⟨x,y,rfl⟩:∃x y,cs=[x,y]:=by
  have:=uz c2;simp only[jo.c,UG,UJ]at this;match cs,this with
  | [x,y],_=>exact⟨x,y,rfl⟩
 refine⟨n0,off+k,row,g,x,y,e1,e3,by rw[e4,c1],c2,nn,hn,by omega,λq x' y' hq=>?_⟩;obtain⟨r1,s1⟩:=a.aQ (h':=h.set n0 (some (.aA 2 (row.set (off+k) [x',y']) g))) (j:=103) (by omega) (by simp) (λm hm u _=>Uq (λy=>u (by rw[<-y];exact e)));refine⟨_,s1,r1.lt,r1.aC,(Uq nn).trans a.aA,r1.aD,r1.l (by omega),r1.aA,⟨rows.set k [x',y'],(f [x',y']).aA (λm hm hlt=>(s1.aC m (by simpa using hlt)).trans hm) (λ_ _ _=>rfl),?_⟩,r1.aI (by omega),r1.aK (by omega),r1.aE (by omega),r1.aH (by omega),r1.aG (by omega),r1.aF (by omega)⟩;show fY _ _ ((v.aE.set k q).map λx=>(iW x).c) _;rw[List.map_set];exact DH k (fY.aA s1.zs s1.kz _ _ p2) (fm.aA (λ_ y=>y.elim) (λ_ y=>y.elim) _ _ hq)
theorem fW.aI (a:fW Λ h nb w v){k:Nat}(hk:k<v.l.length):∃n0 j row g r,jg 1 w.lv (.aA .i64 k)=some (.aC n0 1 j 0)/\h[n0]?=some (some (.aA 1 row g))/\row[j]?=some [.aC r 21 0 0]/\w.rs[k]?=some r/\iN (gR k Λ) h r v.l[k]/\n0≠nb/\n0<h.length/\Λ n0=102 /\
  ∀cs,gE (λm=>Λ m=102) (h.set n0 (some (.aA 1 (row.set j cs) g))) 1 w.lv ((w.rs.map λr=>[AV.aC r 21 0 0]).set k cs):=by
 have e:k<w.rs.length:=by have:=a.aD;omega
 obtain⟨n0,off,row,g,e1,e2,e3,e4,f⟩:=a.l.at (i:=k) (by simpa using e);have u:Λ n0=102:=e2;exact⟨n0,off+k,row,g,w.rs[k],e1,e3,by rw[e4];simp,Ur e,a.aF k e hk,λy=>by rw[y,a.aC]at u;omega,(Up.1 e3).1,u,f⟩
theorem fW.aU (a:fW Λ h nb w v){i:Nat}(hi:i<v.aG.length):∃n0 j row g e d,jg 17 w.pv (.aA .i64 i)=some (.aC n0 17 j 0)/\h[n0]?=some (some (.aA 17 row g))/\row[j]?=some (v.aG[i].aE e d)/\Rd (Zs Λ h) h (gN v.aG[i].es) e/\Rd (Zs Λ h) h (gj v.aG[i].aG) d/\Λ n0=105:=by obtain⟨rows,p1,p2⟩:=a.aG;have hl:=lF p2;simp only[UI]at hl;obtain⟨n0,off,row,g,e1,e2,e3,e4,f⟩:=p1.at (i:=i) (by omega);obtain⟨cs,c1,c2⟩:=sH p2 i (v.aG[i].c) (by rw[U_,Ur hi];rfl);rw[Ur (by omega)]at c1;injection c1 with c1;obtain⟨e,d,rfl,he,hd⟩:=pP c2;exact⟨n0,off+i,row,g,e,d,e1,e3,by rw[e4,c1],he,hd,e2⟩
theorem fW.aN (a:fW Λ h nb w v):ik w.pv=some (.aA .i64 v.aG.length):=by obtain⟨rows,p1,p2⟩:=a.aG;have hl:=lF p2;simp only[UI]at hl;rw[p1.aF,hl]
theorem fW.aX (a:fW Λ h nb w v){i:Nat}(hi:i<v.aA.length):∃n0 j row g d,jg 3 w.dv (.aA .i64 i)=some (.aC n0 3 j 0)/\h[n0]?=some (some (.aA 3 row g))/\row[j]?=some [.aA .i64 v.aA[i].aA,.aA .i64 v.aA[i].aD,d]/\Rd (Zs Λ h) h (gj v.aA[i].aC) d/\Λ n0=106:=by obtain⟨rows,p1,p2⟩:=a.aH;have hl:=lF p2;simp only[UI]at hl;obtain⟨n0,off,row,g,e1,e2,e3,e4,f⟩:=p1.at (i:=i) (by omega);obtain⟨cs,c1,c2⟩:=sH p2 i (v.aA[i].c) (by rw[U_,Ur hi];rfl);rw[Ur (by omega)]at c1;injection c1 with c1;simp only[fT.c,fm,Rd]at c2;obtain⟨_,_,rfl,rfl,_,_,rfl,rfl,d,_,rfl,hd,rfl⟩:=c2;exact⟨n0,off+i,row,g,d,e1,e3,by rw[e4,c1],hd,e2⟩
theorem fW.aT (a:fW Λ h nb w v):ik w.dv=some (.aA .i64 v.aA.length):=by obtain⟨rows,p1,p2⟩:=a.aH;have hl:=lF p2;simp only[UI]at hl;rw[p1.aF,hl]
theorem MT {F:Nat->Prop}{b:AV}{l:List Int}(c:gE F h 1 b (hP l)):ik b=some (.aA .i64 l.length):=by rw[c.aF];simp[hP]
theorem BV {F:Nat->Prop}{b:AV}{l:List Int}(c:gE F h 1 b (hP l)){i:Nat}(hi:i<l.length):∃n0 j row g,jg 1 b (.aA .i64 i)=some (.aC n0 1 j 0)/\F n0/\h[n0]?=some (some (.aA 1 row g))/\row[j]?=some [.aA .i64 l[i]]:=by obtain⟨n0,off,row,g,e1,e2,e3,e4,-⟩:=c.at (i:=i) (by simpa [hP] using hi);exact⟨n0,off+i,row,g,e1,e2,e3,by rw[e4];simp[hP]⟩
end
theorem Gi {row:List (List AV)}{j:Nat}{o x:AV} (h:row[j]?=some [o]):(row.modify j λc=>c.set 0 x)=row.set j [x]:=by
 obtain⟨hj,e⟩:=Up.1 h;apply Vf;intro i;rw[We,VJ];by_cases c:j=i;·subst c;rw[Uv rfl,Uv hj,Ur hj,e];simp
 ·rw[Uw c];cases row[i]?<;>simp[c]
structure CZ (v:iZ)(k n:Nat)(ap D':List fT)(fst:Int)(rst:Bool):Prop where
 k5:k<5/\v.aC.length=5/\v.aE.length=5
 n0:∀(h1:k<v.aE.length)(h2:k<v.aC.length),(n:Int)=if rst=true then v.aE[k].aA.aA else v.aC[k]
 le:n<=v.aA.length
 aC:ap≠[]->fst=n+1
 aF:v.aA<+:D'
 aD:∀i,i<ap.length->D'[n+i]?=ap[i]?
 aE:D'.length=max v.aA.length (n+ap.length)/\D'.length<=2^29
 aA:∀e∈ap,e.aC.length<=2^40
 aG:v.aD.length=v.aA.length
def x9 (P:Program)(f:FuncId):Prop:=fP P f=true/\∀(Λ:Nat->Nat)(h:eW)(nb:Nat)(w:fX)(v:iZ)(k n:Nat)(term:Int)(ma ca aa:AV)(ap D':List fT)(fst:Int)(rst:Bool),fW Λ h nb w v->CZ v k n ap D' fst rst->
 Rd (Zs Λ h) h (gN ap) aa->ma.aH=true->ca.aH=true->
 fC P f [.aC nb 9 0 0,.aA .i64 k,.aA .i64 term,.aF [ma,ca,aa,.aA .i64 fst,.aE rst]] h λ_ h'=>∃Λ' w',gA Λ h Λ' h'/\w'.rs=w.rs/\fW Λ' h' nb w' {v with aC:=v.aC.set k ((n+ap.length:Nat):Int),aA:=D',aD:=v.aD++List.replicate (D'.length-v.aA.length) term}
def je (D D':List fT)(m:Nat):List fT:=if m<=D.length then D else D'.take m
theorem Lr {D D':List fT}{m:Nat}(pre:D<+:D')(hm:m<D'.length)(h:D.length<=m):je D D' m++[D'[m]]=je D D' (m+1)/\(je D D' m).length=m:=by
 have e:je D D' m=D'.take m:=by
  unfold je;split
  ·have:m=D.length:=by omega
   subst this;obtain⟨t,rfl⟩:=pre;simp
  ·rfl
 rw[e];have e2:je D D' (m+1)=D'.take (m+1):=by unfold je;rw[Uw (by omega)]
 rw[e2,U3 hm];exact⟨rfl,by simp;omega⟩
theorem Jy {P:Program}{g:FuncId}(u:sJ P g){Λ:Nat->Nat}{h:eW}{nb b:Nat}{w:fX}{v:iZ}{k n:Nat}{term fst:Int}{ma ca aa:AV}{al:Bool}{ap D':List fT}{L:fV}{K:AX->St->Prop}(a:fW Λ h nb w v)
  (k0:lk 0 L=.aC nb 9 0 0) (k1:lk 1 L=.aA .i64 k) (k2:lk 2 L=.aA .i64 term) (k7:lk 7 L=.aC b 5 0 0) (k8:lk 8 L=.aA .i64 (0:Int)) (hB:h[b]?=some (some (.aA 5 [[ma,ca,aa,.aA .i64 fst,.aE al]] false))) (af:Λ b=0) (sm:ma.aH=true) (sc:ca.aH=true) (ra:Rd (Zs Λ h) h (gN ap) aa) (au:ik aa=some (.aA .i64 ap.length))
  (hk:k<5/\v.aC.length=5) (ax:∀hh:k<v.aC.length,v.aC[k]=(n:Int)) (aq:n<=v.aA.length) (pre:v.aA<+:D') (ay:∀i,i<ap.length->D'[n+i]?=ap[i]?) (hlen:D'.length=max v.aA.length (n+ap.length)/\D'.length<=2^29) (a5:∀e∈ap,e.aC.length<=2^40) (hth:v.aD.length=v.aA.length)
  (hK:∀Lv h' Λ' w',gA Λ h Λ' h'->w'.rs=w.rs->fW Λ' h' nb w' {v with aC:=v.aC.set k ((n+ap.length:Nat):Int),aA:=D',aD:=v.aD++List.replicate (D'.length-v.aA.length) term}->K (.aD 0) ⟨Lv,[],h'⟩):
  vc P (.aE (wK g)) ⟨L,[],h⟩ K:=by
 have a4:=(Up.1 hB).1;obtain⟨I,hI⟩:∃I:Nat->fV->eW->Prop,∀m Lv h',I m Lv h'↔∃(i:Nat)(Λ':Nat->Nat)(w':fX),(lk 0 Lv=.aC nb 9 0 0/\lk 1 Lv=.aA .i64 k/\lk 2 Lv=.aA .i64 term/\lk 7 Lv=.aC b 5 0 0/\lk 8 Lv=.aA .i64 (i:Int))/\gA Λ h Λ' h'/\w'.rs=w.rs /\
   fW Λ' h' nb w' {v with aC:=v.aC.set k ((n+i:Nat):Int),aA:=je v.aA D' (n+i),aD:=v.aD++List.replicate ((je v.aA D' (n+i)).length-v.aA.length) term}/\i<=ap.length/\m=ap.length-i:=⟨_,λ_ _ _=>VW⟩
 have d0:je v.aA D' n=v.aA:=by unfold je;rw[Uv aq]
 refine iM I ap.length ((hI _ _ _).2 ⟨0,Λ,w,⟨k0,k1,k2,k7,by simpa using k8⟩,gA.aG _ _,rfl,?_,by omega,by omega⟩) ?_
 ·have e:=ax (by omega);have:({v with aC:=v.aC.set k ((n+0:Nat):Int),aA:=je v.aA D' (n+0),aD:=v.aD++List.replicate ((je v.aA D' (n+0)).length-v.aA.length) term}:iZ)=v:=by rw[V_,d0,WL,List.replicate_zero,Vo,<-e,WB]
  rw[this];exact a
 intro m Lv h1 hh;obtain⟨i,Λ1,w1,⟨k0,k1,k2,k7,k8⟩,s1,wr,a1,hi,rfl⟩:=(hI _ _ _).1 hh;clear hh;have B1:=(s1.z b a4 af).trans hB;have z1:=(s1.aC b a4).trans af;have ab:=s1.rd ra;simp only[wK,go_sem,k7,k8,B1,au];refine iw (λci=>?_) (λci=>?_)
 ·simp at ci;have ci:i<ap.length:=by omega
  have W:=a1.aA;simp only[fX.aA]at W;obtain⟨bn,bj,a3,bg,j1,j2,j3,j4,j5,j6,j7⟩:=a1.aR (k:=k) (by simp;omega);have aw:a3[bj]?=some [.aA .i64 ((n+i:Nat):Int)]:=by rw[j3];simp
  have dl:=a1.aT;simp only at dl;have dlen:(je v.aA D' (n+i)).length=max v.aA.length (n+i):=by
   unfold je;split;·omega
   ·simp only[UD];omega
  have b8:¬(((je v.aA D' (n+i)).length:Int)<((n+i:Nat):Int)):=by omega
  have ad:n+i<D'.length:=by omega
  simp only[go_sem,k0,k1,W,j1,j2,aw,dl,Us b8];have b5:IntKind.i64.wrap ((i:Int)+1)=((i+1:Nat):Int):=by rw[gi (by omega)];omega
  have b0:IntKind.i64.wrap (((n+i:Nat):Int)+1)=((n+(i+1):Nat):Int):=by rw[gi (by omega)];omega
  obtain⟨p,cs,q1,q2,q3⟩:=Rd.aE ab .i64 (i:=(i:Int)) (d:=(ap[i]).c) (by omega) (by rw[show ((i:Int)).toNat=i by omega,U_,Ur ci];rfl);have ac:=q3;simp only[fT.c,fm,Rd]at q3;obtain⟨_,_,rfl,rfl,_,_,rfl,rfl,d,_,rfl,qd,rfl⟩:=q3;have E:=ay i ci;have b7:=a5 _ (UT ci);have a7:(ap.map fT.c)[i]?=some (ap[i]).c:=by rw[U_,Ur ci];rfl
  rw[Ur ad,Ur ci]at E;injection E with E;generalize ap[i]=en at *;have ba:ir h1 true 3 p=some (.aF [.aA .i64 en.aA,.aA .i64 en.aD,d]):=by rw[ju q2];rfl
  have ai:∀x,ir (h1++[x]) true 3 p=some (.aF [.aA .i64 en.aA,.aA .i64 en.aD,d]):=λx=>by rw[ju (rP q2 (eV.b1 x))];rfl
  have sd:=qd.aA;refine HV (λs=>∃L2 H2 Λ2 w2,s=⟨L2,[],H2⟩/\(lk 0 L2=.aC nb 9 0 0/\lk 1 L2=.aA .i64 k/\lk 2 L2=.aA .i64 term/\lk 7 L2=.aC b 5 0 0/\lk 8 L2=.aA .i64 (i:Int)/\lk 9 L2=.aA .i64 ((n+i:Nat):Int))/\gA Λ1 h1 Λ2 H2/\w2.rs=w.rs /\
   fW Λ2 H2 nb w2 {v with aC:=v.aC.set k ((n+i:Nat):Int),aA:=je v.aA D' (n+(i+1)),aD:=v.aD++List.replicate ((je v.aA D' (n+(i+1))).length-v.aA.length) term}) ?_ ?_
  ·by_cases ce:v.aA.length<=n+i
   ·have a8:(((n+i:Nat):Int))=(je v.aA D' (n+i)).length:=by omega
    obtain⟨ah,ds2⟩:=Lr pre ad ce;have nbl:=(Up.1 a1.aA).1;have R1:∀x,(h1++[x])[nb]?=_:=λx=>(eV.b1 x).aA W;have aj:∀x,(h1++[x])[b]?=_:=λx=>(eV.b1 x).aA B1;have N1:∀sz i o,gW h1.length 1 (.aC nb sz i o)=true:=λsz i o=>iu (by omega);have N2:∀sz i o,gW h1.length 1 (.aC b sz i o)=true:=λsz i o=>iu (by have:=(Up.1 B1).1;omega);simp only[go_sem,jK,k0,k7,k8,R1,aj,Uu a8,q1,ai,sd,N1,N2];refine⟨Gt q2 _,?_⟩;have ae:=lR h1 3 [[AV.aA IntKind.i64 en.aA,AV.aA IntKind.i64 en.aD,d]] false (some 1) (len:=1) rfl;have X2:eV eY h1 (h1++[some (e_.aA 3 [[AV.aA IntKind.i64 en.aA,AV.aA IntKind.i64 en.aD,d]] false)]):=eV.b1 _;obtain⟨x',h3,e1,sx,n3,ar,Λ2,t1,t2⟩:=a1.bw X2 (en:=en) ((gA.up X2:gA Λ1 h1 Λ1 _).aE ac) (by simp only;omega) (bytes:=40) (by decide);rw[<-iq ae]at e1;simp only[fX.aA]at n3 t1 t2;obtain⟨H3,a6⟩:∃H3,H3=h3.set nb (some (e_.aA 9 [[w1.lv,w1.hv,w1.av,w1.pv,x',w1.tv,w1.ev,w1.qv,.aE false]] false)):=⟨_,rfl⟩;rw[<-a6]at t1 t2;simp only[go_sem,e1,sx,gC sx,n3,jK,<-a6,k0];have O:=t2.aA;simp only[fX.aA]at O;clear a6 e1 ae ac q2 n3 ar R1 aj N1 N2 ai ba;have ae:=lR H3 1 [[AV.aA IntKind.i64 term]] false (some 1) (len:=1) rfl;have X4:eV eY H3 (H3++[some (e_.aA 1 [[AV.aA IntKind.i64 term]] false)]):=eV.b1 _;have R4:(H3++[some (e_.aA 1 [[AV.aA IntKind.i64 term]] false)])[nb]?=_:=X4.aA O;obtain⟨x4,h4,e4,a9,n4,nl4,Λ4,u1,u2⟩:=t2.bB X4 term (by simp only[Ut,VN];omega);rw[<-iq ae]at e4;simp only[fX.aA]at n4 u1 u2;obtain⟨H4,ag⟩:∃H4,H4=h4.set nb (some (e_.aA 9 [[w1.lv,w1.hv,w1.av,w1.pv,x',x4,w1.ev,w1.qv,.aE false]] false)):=⟨_,rfl⟩;rw[<-ag]at u1 u2;simp only[go_sem,k2,O,e4,a9,gC a9,n4,<-ag];refine⟨_,_,Λ4,{w1 with dv:=x',tv:=x4},rfl,⟨by simp[fj,k0],by simp[fj,k1],by simp[fj,k2],by simp[fj,k7],by simp[fj,k8],by simp[fj]⟩,t1.aA u1,wr,?_⟩;have e5:(je v.aA D' (n+(i+1))).length-v.aA.length=((je v.aA D' (n+i)).length-v.aA.length)+1:=by
     have:(je v.aA D' (n+(i+1))).length=(je v.aA D' (n+i)).length+1:=by rw[show n+(i+1)=n+i+1 by omega,<-ah];simp
     omega
    rw[e5,List.replicate_succ',<-UW,show n+(i+1)=n+i+1 by omega,<-ah,E];exact u2
   ·have a8:¬(((n+i:Nat):Int))=(je v.aA D' (n+i)).length:=by omega
    simp only[go_sem,Us a8];have e5:je v.aA D' (n+(i+1))=je v.aA D' (n+i):=by unfold je;rw[Uv (by omega),Uv (by omega)]
    refine⟨_,_,Λ1,_,rfl,⟨by simp[fj,k0],by simp[fj,k1],by simp[fj,k2],by simp[fj,k7],by simp[fj,k8],by simp[fj]⟩,gA.aG _ _,wr,?_⟩;rw[e5];exact a1
  ·rintro s ⟨L2,H2,Λ2,w2,rfl,⟨k0,k1,k2,k7,k8,k9⟩,s2,ak,a2⟩;have U:=a2.aA;simp only[fX.aA]at U;have b6:=a2.aT;simp only at b6;have B2:=(s2.z b (by have:=s1.aD;omega) z1).trans B1;have M:n+i<(je v.aA D' (n+(i+1))).length:=by
    unfold je;split;·omega
    ·simp only[UD];omega
   have ed:(je v.aA D' (n+(i+1)))[n+i]=en:=by
    rw[<-E];unfold je at M ⊢;split;·rename_i c;obtain⟨t,rfl⟩:=pre;rw[VM]
    ·simp only[VK]
   obtain⟨nd,jd,drow,dg,d2,g1,g2,g3,g4,g5⟩:=a2.aX (i:=n+i) M;simp only[ed]at g3 g4;have jdl:=(Up.1 g3).1;have am:=s2.rd ab;obtain⟨p2,cs2,ao,an,Z⟩:=Rd.aE am .i64 (i:=(i:Int)) (d:=en.c) (by omega) (by rw[show ((i:Int)).toNat=i by omega];exact a7);have q5:=Z;simp only[fT.c,fm,Rd]at Z;obtain⟨_,_,rfl,rfl,_,_,rfl,rfl,d3,_,rfl,qd3,rfl⟩:=Z;have LD:ir H2 true 3 p2=some (.aF [.aA .i64 en.aA,.aA .i64 en.aD,d3]):=by rw[ju an];rfl
   have q4:fm (Zs Λ2 H2) H2 en.c [.aA .i64 en.aA,.aA .i64 en.aD,d2]:=by simp only[fT.c,fm,Rd];exact⟨_,_,rfl,rfl,_,_,rfl,rfl,d2,_,rfl,g4,rfl⟩
   have GD:ir H2 true 3 (.aC nd 3 jd 0)=some (.aF [.aA .i64 en.aA,.aA .i64 en.aD,d2]):=by simp only[go_sem,g2,g3]
   simp only[go_sem,k0,k7,k8,k9,U,B2,g1,g2,g3,ao,LD];refine fA ⟨u.1,u.2 _ H2 en en _ _ q4 q5 b7⟩ ?_;rintro _ h9 ⟨rfl,e9⟩;rw[e9];clear e9 h9;obtain⟨bn,bj,a3,bg,j1,j2,j3,j4,j5,j6,j7⟩:=a2.aR (k:=k) (by simp;omega);obtain⟨Λ3,t1,t2⟩:=j7 ((n+(i+1):Nat):Int);have b9:=(Up.1 j3).1;simp only[go_sem,k0,k1,k8,k9,U,B2,LD,GD,j1,j2,b9,Gi j3,b0,b5];refine⟨_,by omega,(hI _ _ _).2 ⟨i+1,Λ3,w2,⟨by simp[fj,k0],by simp[fj,k1],by simp[fj,k2],by simp[fj,k7],by simp[fj]⟩,(s1.aA s2).aA t1,ak,?_,by omega,rfl⟩⟩;simp only[Vs]at t2;exact t2
 ·simp at ci;have:i=ap.length:=by omega
  subst this;simp only[go_sem];refine hK _ _ Λ1 w1 s1 wr ?_;have e:je v.aA D' (n+ap.length)=D':=by
   unfold je;split;·exact List.IsPrefix.eq_of_length pre (by omega)
   ·exact UU (by omega)
  rw[e]at a1;exact a1
theorem Jz {P:Program}{f g:FuncId}(hf:Is P f (zP g))(u:sJ P g):x9 P f:=by
 refine⟨hf.2,λΛ h nb w v k n term ma ca aa ap D' fst M a ad ra sm sc=>fU hf ?_⟩;obtain⟨⟨k5,kA,kH⟩,n0,a7,W,pre,ab,⟨U,a3⟩,Z,a9⟩:=ad;obtain⟨H,hH⟩:∃H,H=h++[some (e_.aA 5 [[ma,ca,aa,.aA .i64 fst,.aE M]] false)]:=⟨_,rfl⟩;have X1:eV eY h H:=by rw[hH];exact eV.b1 _
 have B1:H[h.length]?=some (some (e_.aA 5 [[ma,ca,aa,.aA .i64 fst,.aE M]] false)):=by rw[hH];exact gH _ _
 have a1:=a.up X1;have s1:gA Λ h Λ H:=gA.up X1;have ra1:=s1.rd ra;have z0:Λ h.length=0:=a.aE (Uy _);have sa:=ra.aA;have O:ik aa=some (.aA .i64 ap.length):=by have:=ra.aC;simpa [gN] using this
 have E:=a1.aA;simp only[fX.aA]at E;have hl:H.length=h.length+1:=by rw[hH];simp
 obtain⟨hn,hj,hrow,hg,hx,hy,i1,i2,i3,i4,i5,i6,i7,-⟩:=a1.aS (k:=k) (by omega);obtain⟨an,aj,arow,ag,j1,j2,j3,j4,j5,j6,j7⟩:=a1.aR (k:=k) (by omega);simp only[zP,go_sem,sm,sc,sa];rw[<-hH];clear hH;simp only[jo.c,iW,fm]at i4;obtain⟨hx',_,e1,rh,hy',_,e2,-⟩:=i4;injection e1 with e1 e1';subst e1;obtain⟨p,cs,q1,q2,q3⟩:=Rd.aE rh .i64 (i:=(0:Int)) (d:=v.aE[k].c) (by omega) rfl;obtain⟨he,ho,hnn,hll,hss,rfl,-⟩:=m9 q3;refine HV (λs=>∃L1 H2 Λ2,s=⟨L1,[],H2⟩/\(lk 0 L1=.aC nb 9 0 0/\lk 1 L1=.aA .i64 k/\lk 2 L1=.aA .i64 term/\lk 7 L1=.aC h.length 5 0 0)/\gA Λ h Λ2 H2/\gA Λ H Λ2 H2/\fW Λ2 H2 nb w {v with aC:=v.aC.set k (n:Int)}) ?_ ?_
 ·cases M
  ·simp only[go_sem];have e:v.aC.set k (n:Int)=v.aC:=by have:=n0 (by omega) (by omega);simp only[UQ,Vd]at this;rw[this,WB]
   exact⟨_,_,Λ,rfl,⟨by simp[fj,h_],by simp[fj,h_],by simp[fj,h_],by simp[fj]⟩,s1,gA.aG _ _,by rw[e];exact a1⟩
  ·have f1:=py q2 3;have f2:=py (Cv q2 3) 0;have f3:ir H false 1 (pO 0 (pO 3 p))=some (.aA .i64 v.aE[k].aA.aA):=by rw[pB (Cv q2 3) 0];rfl
   have ac:=(Up.1 j3).1;simp only[go_sem,E,i1,i2,i3,q1,f1,f2,f3,j1,j2,ac];obtain⟨Λ2,t1,t2⟩:=j7 v.aE[k].aA.aA;have e:=n0 (by omega) (by omega);simp only[Vm]at e;rw[Gi j3];exact⟨_,_,Λ2,rfl,⟨by simp[fj,h_],by simp[fj,h_],by simp[fj,h_],by simp[fj]⟩,s1.aA t1,t1,by rw[e];exact t2⟩
 ·rintro s ⟨L1,H2,Λ2,rfl,⟨k0,k1,k2,k7⟩,s2,a5,a2⟩;have I:=a2.aA;simp only[fX.aA]at I;have B2:=(a5.z h.length (by omega) z0).trans B1;have z2:=(a5.aC h.length (by omega)).trans z0;have a6:=s2.rd ra;clear j7 i7 j2 j3 E a1 B1 i2 i3 q1 q2 q3 rh;obtain⟨bn,bj,a4,bg,j1,j2,j3,j4,j5,j6,-⟩:=a2.aR (k:=k) (by simp;omega);have a8:a4[bj]?=some [.aA .i64 (n:Int)]:=by rw[j3];simp
  have ew:IntKind.i64.wrap ((n:Int)+1)=n+1:=gi (by omega);have fin:∀Lv:fV,lk 0 Lv=.aC nb 9 0 0->lk 1 Lv=.aA .i64 k->lk 2 Lv=.aA .i64 term->lk 7 Lv=.aC h.length 5 0 0->lk 8 Lv=.aA .i64 (0:Int)->vc P (.aE (wK g)) ⟨Lv,[],H2⟩ (uX 0 (i_ [] λ_ h'=>∃Λ' w',gA Λ h Λ' h'/\w'.rs=w.rs/\fW Λ' h' nb w' {v with aC:=v.aC.set k ((n+ap.length:Nat):Int),aA:=D',aD:=v.aD++List.replicate (D'.length-v.aA.length) term})):=by
   intro Lv e0 e1 e2 e7 e8;refine Jy u a2 (n:=n) (ap:=ap) (D':=D') e0 e1 e2 e7 e8 B2 z2 sm sc a6 O ⟨k5,by simp;omega⟩ (by intro hh;simp) a7 pre ab ⟨U,a3⟩ Z a9 (λLw h3 Λ3 w3 t1 t2 t3=>?_);simp only[go_sem];refine⟨Λ3,w3,s2.aA t1,t2,?_⟩;have e:{({v with aC:=v.aC.set k (n:Int)}:iZ) with aC:=(v.aC.set k (n:Int)).set k ((n+ap.length:Nat):Int),aA:=D',aD:=v.aD++List.replicate (D'.length-v.aA.length) term}={v with aC:=v.aC.set k ((n+ap.length:Nat):Int),aA:=D',aD:=v.aD++List.replicate (D'.length-v.aA.length) term}:=by simp only[Vs]
   rw[<-e];exact t3
  by_cases ca0:ap=[]
  ·have c0:¬((0:Int)<ap.length):=by rw[ca0];simp
   simp only[go_sem,k7,B2,O,Us c0];exact fin _ (by simp[fj,k0]) (by simp[fj,k1]) (by simp[fj,k2]) (by simp[fj,k7]) (by simp[fj])
  ·have c0:(0:Int)<ap.length:=by have:=WG.2 ca0;omega
   have c1:=W ca0;simp only[go_sem,k0,k1,k7,I,B2,O,Uu c0,j1,j2,a8,ew,Uu c1,U2];exact fin _ (by simp[fj,k0]) (by simp[fj,k1]) (by simp[fj,k2]) (by simp[fj,k7]) (by simp[fj])
structure yC (v:iZ)(who:Int)(x:fF):Prop where
 aE:∀(i:Nat) t j,v.aF[i]?=some t->v.aH[i]?=some j->t=x.aC->j=who
 aD:∀(n:Nat) e,x.aA.aA<=n->v.aA[n]?=some e->∀t,v.aD[n]?=some t->t<x.aC->x.aA.aI (n+1) 1=[e]
 ok:jH x.aA
 aA:v.aH.length=v.aF.length/\v.aF.length<=2^29
 aC:v.aD.length=v.aA.length/\v.aA.length<=2^29
def yD (P:Program)(f:FuncId):Prop:=fP P f=true/\∀(Λ:Nat->Nat)(h:eW)(nb:Nat)(w:fX)(v:iZ)(who:Int)(x:fF)(cs:List AV),fW Λ h nb w v->yC v who x->fm (Zs Λ h) h x.c cs->
 fC P f [.aC nb 9 0 0,.aA .i64 who,.aF cs] h λ_ h'=>∃Λ' w',gA Λ h Λ' h'/\w'.rs=w.rs/\fW Λ' h' nb w' {v with aF:=if x.aC∈v.aF then v.aF else v.aF++[x.aC],aH:=if x.aC∈v.aF then v.aH else v.aH++[who]}
theorem NU {P:Program}{s g:FuncId}{Λ:Nat->Nat}{H:eW}{nb b:Nat}{w:fX}{v:iZ}{who:Int}{x:fF}{e o n l d:AV}{L:fV}{K:AX->St->Prop}(a:fW Λ H nb w v)
  (k0:lk 0 L=.aC nb 9 0 0) (k1:lk 1 L=.aA .i64 who) (k5:lk 5 L=.aC b 10 0 0) (k6:lk 6 L=.aA .i64 (0:Int)) (hB:H[b]?=some (some (.aA 10 [x.aH e o n l d] false))) (ai:yC v who x)
  (M:∀Lv,x.aC∉v.aF->lk 0 Lv=.aC nb 9 0 0->lk 1 Lv=.aA .i64 who->lk 5 Lv=.aC b 10 0 0->K (.aD 0) ⟨Lv,[],H⟩)
  (E:∀Lv,x.aC∈v.aF->K .aC ⟨Lv,[],H⟩):vc P (.aE (zS s g)) ⟨L,[],H⟩ K:=by
 obtain⟨I,hI⟩:∃I:Nat->fV->eW->Prop,∀m Lv h',I m Lv h'↔∃i:Nat,(lk 0 Lv=.aC nb 9 0 0/\lk 1 Lv=.aA .i64 who/\lk 5 Lv=.aC b 10 0 0/\lk 6 Lv=.aA .i64 (i:Int))/\h'=H/\(∀j,j<i->v.aF[j]?≠some x.aC)/\i<=v.aF.length/\m=v.aF.length-i:=⟨_,λ_ _ _=>VW⟩;refine iM I v.aF.length ((hI _ _ _).2 ⟨0,⟨k0,k1,k5,by simpa using k6⟩,rfl,λj hj=>by omega,by omega,by omega⟩) ?_;intro m Lv h1 hh;obtain⟨i,⟨k0,k1,k5,k6⟩,rfl,hn,hi,rfl⟩:=(hI _ _ _).1 hh;clear hh;have u:=a.aA;simp only[fX.aA]at u;have tl:=MT a.aJ;obtain⟨led,-,-,⟨ll,l29⟩,-⟩:=ai;simp only[fF.aH]at hB;simp only[zS,go_sem,k0,k6,u,tl];refine iw (λci=>?_) (λci=>?_)
 ·simp at ci;have ci:i<v.aF.length:=by omega
  have O:IntKind.i64.wrap ((i:Int)+1)=((i+1:Nat):Int):=by rw[gi (by omega)];omega
  obtain⟨n1,j1,r1,g1,e1,-,e3,e4⟩:=BV a.aJ ci;have el:=(Up.1 e4).1;obtain⟨n2,j2,r2,g2,f1,-,f3,f4⟩:=BV a.aM (i:=i) (by omega);have fl:=(Up.1 f4).1;simp only[go_sem,k0,k5,k6,u,hB,e1,e3,e4];refine iw (λc=>?_) (λc=>?_)
  ·simp at c;have e:=led i _ _ (Ur ci) (Ur (by omega)) c;have hs:h1.set nb (some (.aA 9 [[w.lv,w.hv,w.av,w.pv,w.dv,w.tv,w.ev,w.qv,.aE false]] false))=h1:=by have nbl:=(Up.1 u).1;have e2:=(Up.1 u).2;rw[<-e2];exact WB _
   simp only[go_sem,k0,k1,k6,u,f1,f3,f4,e,hs];exact E _ (by rw[<-c];exact UT _)
  ·simp at c;simp only[go_sem,k6,O];refine⟨_,by omega,(hI _ _ _).2 ⟨i+1,⟨by simp[fj,k0],by simp[fj,k1],by simp[fj,k5],by simp[fj]⟩,rfl,λj hj=>?_,by omega,rfl⟩⟩;by_cases c2:j=i;·subst c2;rw[Ur ci];simpa using c
   ·exact hn j (by omega)
 ·simp at ci;simp only[go_sem];refine M _ (λhm=>?_) (by simp[fj,k0]) (by simp[fj,k1]) (by simp[fj,k5]);obtain⟨j,hj,e⟩:=List.getElem_of_mem hm;exact hn j (by omega) (by rw[Ur hj,e])
theorem NV {P:Program}{s g:FuncId}(us:nT P s)(ue:sJ P g){Λ:Nat->Nat}{H:eW}{nb b:Nat}{w:fX}{v:iZ}{x:fF}{e o n l d:AV}{L:fV}{K:AX->St->Prop}(a:fW Λ H nb w v)
  (k0:lk 0 L=.aC nb 9 0 0) (k5:lk 5 L=.aC b 10 0 0) (k7:lk 7 L=.aA .i64 (x.aA.aA+1)) (hB:H[b]?=some (some (.aA 10 [x.aH e o n l d] false))) (hb:Λ b=0) (he:Rd (Zs Λ H) H (gN x.aA.es) e) (ok:jH x.aA)
  (M:∀(n:Nat) e,x.aA.aA<=n->v.aA[n]?=some e->∀t,v.aD[n]?=some t->t<x.aC->x.aA.aI (n+1) 1=[e]) (hlen:v.aD.length=v.aA.length/\v.aA.length<=2^29)
  (hK:∀Lv h',eV eY H h'->K (.aD 2) ⟨Lv,[],h'⟩):vc P (.aE (zT s g)) ⟨L,[],H⟩ K:=by
 obtain⟨B,a7⟩:∃B:Nat,x.aA.aA=B:=⟨x.aA.aA.toNat,by have:=ok.1;omega⟩;have B41:B<=2^41:=by have:=ok.2.1;omega
 obtain⟨I,hI⟩:∃I:Nat->fV->eW->Prop,∀m Lv h',I m Lv h'↔∃i:Nat,(lk 0 Lv=.aC nb 9 0 0/\lk 5 Lv=.aC b 10 0 0/\lk 7 Lv=.aA .i64 ((i+1:Nat):Int))/\eV eY H h'/\B<=i/\m=v.aA.length-i:=⟨_,λ_ _ _=>VW⟩;refine iM I (v.aA.length-B) ((hI _ _ _).2 ⟨B,⟨k0,k5,by rw[k7,a7];rfl⟩,eV.aC _ _,by omega,by omega⟩) ?_;intro m Lv h1 hh;obtain⟨i,⟨k0,k5,k7⟩,X1,hi,rfl⟩:=(hI _ _ _).1 hh;clear hh;have a1:=a.up X1;have E:=a1.aA;simp only[fX.aA]at E;have dl:=a1.aT;have B1:=X1.aA hB;have a6:=he.up X1;have sc:=he.aA;simp only[fF.aH]at B1;simp only[zT,go_sem,k0,k7,E,dl];refine iw (λci=>?_) (λci=>?_)
 ·simp at ci;have ci:i<v.aA.length:=by omega
  have a3:IntKind.i64.wrap (((i+1:Nat):Int)+1)=((i+1+1:Nat):Int):=by rw[gi (by omega)];omega
  have Z:IntKind.i64.wrap (((i+1:Nat):Int)-1)=((i:Nat):Int):=by rw[gi (by omega)];omega
  have rl:fm (Zs Λ H) h1 x.aA.c [.aA .i64 x.aA.aA,.aA .i64 x.aA.aD,e]:=by simp only[fu.c,fm,Rd];exact⟨_,_,rfl,rfl,_,_,rfl,rfl,e,_,rfl,a6,rfl⟩
  simp only[go_sem,k5,k7,B1];refine fA ⟨us.1,us.2 _ h1 x.aA _ ((i+1:Nat):Int) 1 rl ok⟩ ?_;rintro r h2 ⟨ow,-,X2⟩;have U:eV eY H h2:=X1.tr X2;have a2:=a.up U;have u:=a2.aA;simp only[fX.aA]at u;have B2:=U.aA hB;simp only[fF.aH]at B2;have sr:=ow.aA;obtain⟨n1,j1,r1,g1,e1,-,e3,e4⟩:=BV a2.aO (i:=i) (by omega);have el:=(Up.1 e4).1;have fin:∀Lw:fV,lk 0 Lw=.aC nb 9 0 0->lk 5 Lw=.aC b 10 0 0->lk 7 Lw=.aA .i64 ((i+1+1:Nat):Int)->∃m'<v.aA.length-i,I m' Lw h2:=λLw q0 q5 q7=>⟨_,by omega,(hI _ _ _).2 ⟨i+1,⟨q0,q5,q7⟩,U,by omega,rfl⟩⟩;by_cases ct:v.aD[i]<x.aC
  ·have W:=M i _ (by omega) (Ur ci) _ (Ur (by omega)) ct;rw[show ((i+1:Nat):Int)=(i:Int)+1 by omega,W]at ow;have rr:Rd (λ_=>True) h2 (gN [v.aA[i]]) r:=eX.rd _ (λ_ _=>UF) _ ow;have a4:ik r=some (.aA .i64 (1:Int)):=by have:=rr.aC;simpa [gN] using this
   obtain⟨p,cs,q1,q2,q3⟩:=Rd.aE rr .i64 (i:=(0:Int)) (d:=(v.aA[i]).c) (by omega) rfl;have a5:=q3;have O:v.aA[i].aC.length<=2^40:=by
    refine ok.2.2.2 _ (?_:v.aA[i]∈x.aA.es);have:v.aA[i]∈x.aA.aI ((i:Int)+1) 1:=by rw[W];simp
    unfold fu.aI at this;split at this;·simp at this
    ·exact UX (U9 this)
   simp only[fT.c,fm,Rd]at q3;obtain⟨_,_,rfl,rfl,_,_,rfl,rfl,dd,_,rfl,qd,rfl⟩:=q3;have LD:ir h2 true 3 p=some (.aF [.aA .i64 v.aA[i].aA,.aA .i64 v.aA[i].aD,dd]):=by rw[ju q2];rfl
   obtain⟨nd,jd,drow,dg,d2,g1,g2,g3,g4,g5⟩:=a2.aX ci;have jdl:=(Up.1 g3).1;have q4:fm (λ_=>True) h2 (v.aA[i]).c [.aA .i64 v.aA[i].aA,.aA .i64 v.aA[i].aD,d2]:=by simp only[fT.c,fm,Rd];exact⟨_,_,rfl,rfl,_,_,rfl,rfl,d2,_,rfl,Rd.aD (λ_ _=>UF) (λ_ _ _ y=>y) _ _ g4,rfl⟩
   simp only[go_sem,k0,k5,k7,u,B2,e1,e3,e4,Z,Uu ct,a4,q1,LD,g1,g2,g3];have GD:ir h2 true 3 (.aC nd 3 jd 0)=some (.aF [.aA .i64 v.aA[i].aA,.aA .i64 v.aA[i].aD,d2]):=by simp only[go_sem,g2,g3]
   refine fA ⟨ue.1,ue.2 _ h2 _ _ _ _ a5 q4 O⟩ ?_;rintro _ h9 ⟨rfl,e9⟩;rw[e9];clear e9 h9;simp only[go_sem,k7,u,B2,e3,e4,LD,GD,a3];exact fin _ (by simp[fj,k0]) (by simp[fj,k5]) (by simp[fj])
  ·simp only[go_sem,k0,k5,k7,u,B2,e1,e3,e4,Z,Us ct,a3];exact fin _ (by simp[fj,k0]) (by simp[fj,k5]) (by simp[fj])
 ·simp at ci;simp only[go_sem];exact hK _ _ X1
theorem NW {P:Program}{f s g:FuncId}(hf:Is P f (zR s g))(us:nT P s)(ue:sJ P g):yD P f:=by
 refine⟨hf.2,λΛ h nb w v who x cs a ai hx=>fU hf ?_⟩;obtain⟨e,o,n,l,d,rfl,he,ho,hn,hl,hd⟩:=m9 hx;have se:=he.aA;have so:=ho.aA;have sn:=hn.aA;have sl:=hl.aA;have sd:=hd.aA;obtain⟨H,hH⟩:∃H,H=h++[some (e_.aA 10 [x.aH e o n l d] false)]:=⟨_,rfl⟩;have X1:eV eY h H:=by rw[hH];exact eV.b1 _
 have B1:H[h.length]?=some (some (e_.aA 10 [x.aH e o n l d] false)):=by rw[hH];exact gH _ _
 have a1:=a.up X1;have s1:gA Λ h Λ H:=gA.up X1;have z0:Λ h.length=0:=a.aE (Uy _);have hl1:H.length=h.length+1:=by rw[hH];simp
 simp only[fF.aH]at hH;simp only[zR,fF.aH,go_sem,se,so,sn,sl,sd];rw[<-hH];clear hH;refine NU a1 (who:=who) (x:=x) (by simp[fj,h_]) (by simp[fj,h_]) (by simp[fj]) (by simp[fj]) B1 ai (λLv hm k0 k1 k5=>?_) (λLv hm=>?_);·have E:=a1.aA;simp only[fX.aA,fF.aH]at E B1;have R1:∀y,(H++[y])[nb]?=_:=λy=>(eV.b1 y).aA E;have W:∀y,(H++[y])[h.length]?=_:=λy=>(eV.b1 y).aA B1;have nbl:=(Up.1 E).1;have N1:∀sz i o,gW H.length 1 (.aC nb sz i o)=true:=λsz i o=>iu (by omega);have N2:∀sz i o,gW H.length 1 (.aC h.length sz i o)=true:=λsz i o=>iu (by omega);have ae:=lR H 1 [[AV.aA IntKind.i64 x.aC]] false (some 1) (len:=1) rfl;have X2:eV eY H (H++[some (e_.aA 1 [[AV.aA IntKind.i64 x.aC]] false)]):=eV.b1 _;obtain⟨x',h3,e1,sx,n3,Z,Λ2,t1,t2⟩:=a1.bA X2 x.aC (by have:=ai.aA.2;omega);rw[<-iq ae]at e1;simp only[fX.aA]at n3 t1 t2;obtain⟨H3,I⟩:∃H3,H3=h3.set nb (some (e_.aA 9 [[w.lv,w.hv,w.av,w.pv,w.dv,w.tv,x',w.qv,.aE false]] false)):=⟨_,rfl⟩;rw[<-I]at t1 t2;simp only[go_sem,jK,k0,k5,R1,W,N1,N2,e1,sx,gC sx,n3,<-I];have u:=t2.aA;simp only[fX.aA]at u;clear I e1 ae n3 Z R1 W N1 N2;have ae:=lR H3 1 [[AV.aA IntKind.i64 who]] false (some 1) (len:=1) rfl;have X4:eV eY H3 (H3++[some (e_.aA 1 [[AV.aA IntKind.i64 who]] false)]):=eV.b1 _;have R4:(H3++[some (e_.aA 1 [[AV.aA IntKind.i64 who]] false)])[nb]?=_:=X4.aA u;obtain⟨x4,h4,e4,M,n4,nl4,Λ4,u1,u2⟩:=t2.bz X4 who (by have:=ai.aA;show v.aH.length<=_;omega);rw[<-iq ae]at e4;simp only[fX.aA]at n4 u1 u2;obtain⟨H4,U⟩:∃H4,H4=h4.set nb (some (e_.aA 9 [[w.lv,w.hv,w.av,w.pv,w.dv,w.tv,x',x4,.aE false]] false)):=⟨_,rfl⟩;rw[<-U]at u1 u2;simp only[go_sem,k1,k5,u,e4,M,gC M,n4,<-U];have s4:=(s1.aA t1).aA u1;have O:=t1.aA u1;have B4:=(O.z h.length (by omega) z0).trans B1;have z4:=(O.aC h.length (by omega)).trans z0;have a2:=s4.rd he;have ew:IntKind.i64.wrap (x.aA.aA+1)=x.aA.aA+1:=gi (by have:=ai.ok;simp only[jH]at this;omega);simp only[go_sem,B4,ew];refine NV (x:=x) (e:=e) (o:=o) (n:=n) (l:=l) (d:=d) us ue u2 (by simp[fj,k0]) (by simp[fj,k5]) (by simp[fj]) B4 z4 a2 ai.ok ai.aD ai.aC (λLw h5 X5=>?_);simp only[go_sem];refine⟨Λ4,{w with ev:=x',qv:=x4},s4.aA (gA.up X5),rfl,?_⟩;rw[Uw hm,Uw hm];exact u2.up X5
 ·simp only[go_sem];refine⟨Λ,w,s1,rfl,?_⟩;rw[Uv hm,Uv hm];exact a1
theorem Oo {row:List (List AV)}{j:Nat}{o p x y:AV} (h:row[j]?=some [o,p]):(row.modify j λc=>(c.set 0 x).set 1 y)=row.set j [x,y]:=by
 obtain⟨hj,e⟩:=Up.1 h;apply Vf;intro i;rw[We,VJ];by_cases c:j=i;·subst c;rw[Uv rfl,Uv hj,Ur hj,e];simp
 ·rw[Uw c];cases row[i]?<;>simp[c]
theorem SD {P:Program}{fa fh fs fp fr fl:FuncId}(ua:r9 P fa){Λ:Nat->Nat}{H:eW}{nb b:Nat}{w:fX}{v:iZ}{k:Nat}{ma ca aa fi rs:AV}{cl:List fZ}{qe:fF}{L:fV}{K:AX->St->Prop}(a:fW Λ H nb w v)
  (k0:lk 0 L=.aC nb 9 0 0) (k1:lk 1 L=.aA .i64 k) (k5:lk 5 L=.aC b 5 0 0) (k6:lk 6 L=.aA .i64 (0:Int)) (hB:H[b]?=some (some (.aA 5 [[ma,ca,aa,fi,rs]] false))) (hb:Λ b=0) (hc:Rd (Zs Λ H) H (nV cl) ca) (hl:cl.length<=2^40)
  (hk:k<v.aE.length) (ch:nC v.aE[k] cl qe)
  (hK:∀Lv Λ' h',lk 0 Lv=.aC nb 9 0 0->lk 1 Lv=.aA .i64 k->lk 5 Lv=.aC b 5 0 0->gA Λ H Λ' h'->fW Λ' h' nb w {v with aE:=v.aE.set k qe}->K (.aD 0) ⟨Lv,[],h'⟩):vc P (.aE (zV fa fh fs fp fr fl)) ⟨L,[],H⟩ K:=by
 have blen:=(Up.1 hB).1;obtain⟨I,hI⟩:∃I:Nat->fV->eW->Prop,∀m Lv h',I m Lv h'↔∃(j:Nat)(Λ':Nat->Nat)(q:fF),(lk 0 Lv=.aC nb 9 0 0/\lk 1 Lv=.aA .i64 k/\lk 5 Lv=.aC b 5 0 0/\lk 6 Lv=.aA .i64 (j:Int))/\gA Λ H Λ' h'/\nC q (cl.drop j) qe /\
   fW Λ' h' nb w {v with aE:=v.aE.set k q}/\j<=cl.length/\m=cl.length-j:=⟨_,λ_ _ _=>VW⟩
 refine iM I cl.length ((hI _ _ _).2 ⟨0,Λ,v.aE[k],⟨k0,k1,k5,by simpa using k6⟩,gA.aG _ _,ch,?_,by omega,by omega⟩) ?_;·rw[WB];exact a
 intro m Lv h1 hh;obtain⟨j,Λ1,q,⟨k0,k1,k5,k6⟩,s1,ch,a1,hj,rfl⟩:=(hI _ _ _).1 hh;clear hh;have B1:=(s1.z b blen hb).trans hB;have hc1:=s1.rd hc;have row1:=a1.aA;simp only[fX.aA]at row1;have lc:ik ca=some (.aA .i64 cl.length):=by have:=hc.aC;simpa [nV] using this
 simp only[zV,go_sem,k5,k6,B1,lc];refine iw (λcj=>?_) (λcj=>?_)
 ·simp at cj;have cj:j<cl.length:=by omega
  rw[VT cj]at ch;obtain⟨ch1,⟨ch2,ch3⟩,ch4,ch5⟩:=ch;have ea:=JA ch1 ch4;obtain⟨ya,yb,hy,hya,hyb⟩:∃ya yb,(iW (q.aI cl[j]).1).v=[ya,yb]/\ya.aH=true/\yb.aH=true:=⟨_,_,rfl,lS _,lS _⟩;have XB:eV eY h1 (h1++[some (e_.aA 2 [[ya,yb]] false)]):=eV.b1 _;have aB:=a1.up XB;obtain⟨n0,i0,row,g,x,y,e1,e2,e3,e4,e5,e6,e7,-⟩:=a1.aS (k:=k) (by simpa using hk);simp only[VC]at e4;obtain⟨n1,i1,row',g',x',y',f1,f2,-,-,-,-,-,f⟩:=aB.aS (k:=k) (by simpa using hk);rw[e1]at f1;injection f1 with f1;injection f1 with f1 _ f1';subst f1 f1';rw[XB.aA e2]at f2;injection f2 with f2;injection f2 with f2;injection f2 with _ f2 f2';subst f2 f2';obtain⟨pc,cc,j1,j2,j3⟩:=Rd.aE hc1 .i64 (i:=(j:Int)) (d:=(cl[j]).c) (by omega) (by rw[show ((j:Int)).toNat=j by omega,U_,Ur cj];rfl);obtain⟨ce,cO,cN,cL,cS,rfl,-⟩:=CA j3;have ew:IntKind.i64.wrap ((j:Int)+1)=((j+1:Nat):Int):=by rw[gi (by omega)];omega
  have nbl:=(Up.1 row1).1;have bl1:=(Up.1 B1).1;have il:=(Up.1 e3).1;have R1:∀w,(h1++[w])[nb]?=_:=λw=>(eV.b1 w).aA row1;have BB1:∀w,(h1++[w])[b]?=_:=λw=>(eV.b1 w).aA B1;have X1:∀w,(h1++[w])[n0]?=_:=λw=>(eV.b1 w).aA e2;have LD:∀w,ir (h1++[w]) true 17 pc=some (.aF _):=λw=>ju (rP j2 (eV.b1 w)) true 17;have N0:∀sz i o,gW h1.length 1 (.aC nb sz i o)=true:=λsz i o=>iu (by omega);have N1:∀sz i o,gW h1.length 1 (.aC b sz i o)=true:=λsz i o=>iu (by omega);have N2:∀sz i o,gW h1.length 1 (.aC n0 sz i o)=true:=λsz i o=>iu (by omega);simp only[go_sem,jK,k0,k1,k5,k6,R1,BB1,X1,e1,e3,j1,LD,N0,N1,N2];have ra:fm (λn=>True) (h1++[none]) (iW q).c [x,y]:=fm.aA (F:=Zs Λ1 h1) (h:=h1) (λ_ _=>UF) ((eV.b1 none).aE _) _ _ e4;have rc:=fm.aA (F':=λn=>True) (λ_ _=>UF) ((eV.b1 none).aE _) _ _ j3;have ap:=ua.aA ra rc ch3 (Uy _) ch2;rw[ea]at ap;refine⟨Gt j2 _,fA ⟨ua.1,ap⟩ ?_⟩;rintro _ h7 ⟨rfl,e7'⟩;rw[e7'];clear e7' h7;have ry:fm eY h1 (iW (q.aI cl[j]).1).c [ya,yb]:=by rw[<-hy];exact rQ _ _ _
  have B61:∀w:Option e_,(h1++[w])[h1.length]?=some w:=λw=>by simp
  have s61:∀w y:Option e_,(h1++[w]).set h1.length y=h1++[y]:=λw y=>by simp
  have n61:∀w:Option e_,h1.length<(h1++[w]).length:=λw=>by simp
  rw[hy];obtain⟨Λ3,t1,t2⟩:=f (q.aI cl[j]).1 ya yb (fm.aA (λ_ y=>y) (λ_ y=>y.elim) _ _ ry);simp only[go_sem,jK,k0,k1,k6,R1,BB1,X1,e1,e3,il,B61,LD,s61,hya,hyb,ew];rw[Oo e3];refine⟨_,by omega,(hI _ _ _).2 ⟨j+1,Λ3,_,⟨by simp[fj,k0],by simp[fj,k1],by simp[fj,k5],by simp[fj]⟩,(s1.aA (gA.up XB)).aA t1,ch5,?_,by omega,rfl⟩⟩;simp only[Vs]at t2;exact t2
 ·simp at cj;have:j=cl.length:=by omega
  subst this;rw[WJ]at ch;have ch:qe=q:=ch;subst ch;simp only[go_sem];exact hK _ _ _ (by simp[fj,k0]) (by simp[fj,k1]) (by simp[fj,k5]) s1 a1
structure uB (v:iZ)(k:Nat)(o:kT)(y:eZ)(D':List fT)(n:Nat):Prop where
 k5:k<5/\v.aE.length=5
 aH:v.l[k]?=some y
 aC:∀h:k<v.aE.length,nC v.aE[k] o.aA y.aA
 aE:y.aA.aJ 130000
 aA:CZ {v with aE:=v.aE.set k y.aA} k n o.aF D' o.aE o.aC
 aG:(v.aG.length+o.aD.length)*200<=2^46
 aD:o.aA.length<=2^40
 aF:y.aG=2->yC {v with aA:=D',aD:=v.aD++List.replicate (D'.length-v.aA.length) y.aA.aC} (k+1) y.aA
def iZ.aI (v:iZ)(k:Nat)(o:kT)(y:eZ)(D':List fT)(n:Nat):iZ:=
 {v with aE:=v.aE.set k y.aA,aC:=v.aC.set k ((n+o.aF.length:Nat):Int),aG:=v.aG++o.aD,aA:=D',aD:=v.aD++List.replicate (D'.length-v.aA.length) y.aA.aC,aF:=if y.aG=2/\y.aA.aC∉v.aF then v.aF++[y.aA.aC] else v.aF,aH:=if y.aG=2/\y.aA.aC∉v.aF then v.aH++[(k:Int)+1] else v.aH}
def lQ (P:Program)(f:FuncId):Prop:=fP P f=true/\∀(Λ:Nat->Nat)(h:eW)(nb:Nat)(w:fX)(v:iZ)(k:Nat)(o:kT)(y:eZ)(D':List fT)(n:Nat)(ma ca aa:AV),fW Λ h nb w v->uB v k o y D' n->
 Rd (Zs Λ h) h (td o.aD) ma->Rd (Zs Λ h) h (nV o.aA) ca->Rd (Zs Λ h) h (gN o.aF) aa->
 fC P f [.aC nb 9 0 0,.aA .i64 k,.aF [ma,ca,aa,.aA .i64 o.aE,.aE o.aC]] h λ_ h'=>∃Λ' w',gA Λ h Λ' h'/\w'.rs=w.rs/\fW Λ' h' nb w' (v.aI k o y D' n)
theorem MB {F:Nat->Prop}{h:eW}{x:fF}{e o n l s:AV}(hh:fm F h x.c (x.aH e o n l s)):e.aH=true/\o.aH=true/\n.aH=true/\l.aH=true/\s.aH=true:=by obtain⟨e',o',n',l',s',eq,h1,h2,h3,h4,h5⟩:=m9 hh;simp only[fF.aH,VI,and_true,true_and]at eq;obtain⟨rfl,rfl,rfl,rfl,rfl⟩:=eq;exact⟨h1.aA,h2.aA,h3.aA,h4.aA,h5.aA⟩
theorem SE {P:Program}{f fa fh fs fp fr fl:FuncId}(hf:Is P f (zU fa fh fs fp fr fl))(ua:r9 P fa)(uh:qV P fh)(us:yW P fs)(up:x9 P fp)(ur:ou P fr eZ.aG)(ul:yD P fl):lQ P f:=by
 refine⟨hf.2,λΛ h nb w v k o y D' n ma ca aa a ti rm rc ra=>fU hf ?_⟩;obtain⟨⟨k5,kH⟩,self,chain,fit,app,post,few,lead⟩:=ti;have sm:=rm.aA;have sc:=rc.aA;have sa:=ra.aA;obtain⟨H,hH⟩:∃H,H=h++[some (e_.aA 5 [[ma,ca,aa,.aA .i64 o.aE,.aE o.aC]] false)]:=⟨_,rfl⟩;have X1:eV eY h H:=by rw[hH];exact eV.b1 _
 have B1:H[h.length]?=some (some (e_.aA 5 [[ma,ca,aa,.aA .i64 o.aE,.aE o.aC]] false)):=by rw[hH];exact gH _ _
 have a1:=a.up X1;have s1:gA Λ h Λ H:=gA.up X1;have z0:Λ h.length=0:=a.aE (Uy _);have hl1:H.length=h.length+1:=by rw[hH];simp
 simp only[zU,go_sem,sm,sc,sa];rw[<-hH];clear hH;refine SD ua a1 (qe:=y.aA) (by simp[fj,h_]) (by simp[fj,h_]) (by simp[fj]) (by simp[fj]) B1 z0 (s1.rd rc) few (by omega) (chain (by omega)) (λLv Λ2 H2 k0 k1 k5' s2 a2=>?_);have row2:=a2.aA;simp only[fX.aA]at row2;have s12:=s1.aA s2;have B2:=(s2.z h.length (by omega) z0).trans B1;have z2:=(s2.aC h.length (by omega)).trans z0;obtain⟨hkl,self'⟩:=Up.1 self;obtain⟨n0,j0,lrow,lg,r,e1,e2,e3,e4,e5,e6,e7,-,-⟩:=a2.aI (k:=k) hkl;simp only[self']at e5;have el:=(Up.1 e3).1;simp only[go_sem,k0,k1,row2,e1,e2,e3];obtain⟨⟨gg,ff,rAt⟩,-⟩:=e5;refine fA ⟨uh.1,uh.2 H2 r y ⟨_,_,rAt.aA⟩ (fit.aF (by omega)) (fit.aC.le (by omega)) (by have:=fit.aG;omega) ⟨by have:=fit.aE;omega,by have:=fit.aA;omega⟩⟩ ?_;rintro _ H3 ⟨hb,rfl,ob,X3⟩;obtain⟨he,ho,hn,hl,hs,rfl,-⟩:=m9 (F:=λ_=>True) (h:=H3) (fI.rd _ (λ_ _=>UF) _ ob);have hd3:fm (λ_=>True) H3 y.aA.c (y.aA.aH he ho hn hl hs):=fI.rd _ (λ_ _=>UF) _ ob;obtain⟨b1,b2,b3,b4,b5⟩:=MB hd3;obtain⟨H4,hH4⟩:∃H4,H4=H3++[some (e_.aA 10 [y.aA.aH he ho hn hl hs] false)]:=⟨_,rfl⟩;have X4:eV eY H3 H4:=by rw[hH4];exact eV.b1 _
 have X24:eV eY H2 H4:=X3.tr X4;have C4:H4[H3.length]?=some (some (e_.aA 10 [y.aA.aH he ho hn hl hs] false)):=by rw[hH4];exact gH _ _
 have a4:=a2.up X24;have s4:=s12.aA (gA.up X24);have row4:=a4.aA;simp only[fX.aA]at row4;have B4:=X24.aA B2;have z4:=z2;have l3:=X3.1;have l4:H4.length=H3.length+1:=by rw[hH4];simp
 have c0:Λ2 H3.length=0:=a2.aE l3;have hd4:fm (Zs Λ2 H4) H4 y.aA.c (y.aA.aH he ho hn hl hs):=fm.up (fI.rd _ (λm hm=>⟨a2.aE hm.1,by have:=hm.2;omega⟩) _ (fI.lt _ _ ob)) X4;obtain⟨n1,j1,hrow,hg,hx,hy,i1,i2,i3,i4,i5,i6,i7,-⟩:=a4.aS (k:=k) (by simp;omega);have il:=(Up.1 i3).1;simp only[VC,jo.c,iW,fm]at i4;obtain⟨hx',_,f1,rh,hy',_,f2,-⟩:=i4;injection f1 with f1 f1';subst f1;obtain⟨p,cs,q1,q2,q3⟩:=Rd.aE rh .i64 (i:=(0:Int)) (d:=y.aA.c) (by omega) rfl;have q3':=q3;obtain⟨he',ho',hn',hl',hs',rfl,-⟩:=m9 q3;have LD:ir H4 true 10 p=some (.aF (y.aA.aH he' ho' hn' hl' hs')):=by rw[ju q2];rfl
 simp only[fF.aH]at hH4 C4 LD;simp only[fF.aH,go_sem,b1,b2,b3,b4,b5,<-hH4,k0,k1,row4,i1,i2,i3,q1,LD,C4];clear hH4;refine fA ⟨us.1,us.2 _ _ H4 y.aA y.aA _ _ hd4 q3' (fit.aD (by omega))⟩ ?_;rintro _ h9 ⟨rfl,e9⟩;rw[e9];clear e9 h9;have ID:ir H4 true 10 p=some (.aF (y.aA.aH he' ho' hn' hl' hs')):=LD;simp only[go_sem,k0,k1,k5',row4,i2,i3,LD,C4,B4];refine fA ⟨up.1,up.2 Λ2 H4 nb w _ k n y.aA.aC ma ca aa o.aF D' o.aE o.aC a4 app (s4.rd ra) sm sc⟩ ?_;rintro _ H5 ⟨Λ5,w5,s5,wr5,a5⟩;have row5:=a5.aA;simp only[fX.aA]at row5;have hl4:=(Up.1 B4).1;have B5:=(s5.z h.length hl4 z4).trans B4;have C5:=(s5.z H3.length (by omega) c0).trans C4;have rm5:=(s4.aA s5).rd rm;have hd5:=s5.aE hd4;obtain⟨ys,ae,rys⟩:=rm5.aH;obtain⟨x',h3,g1,sx,n3,nl3,Λ6,t1,t2⟩:=a5.aW (eV.aC _ H5) (ms:=o.aD) (ys:=ys) rys (by simpa using post) (bytes:=168) (by decide);rw[<-iq ae]at g1;simp only[fX.aA]at n3 t1 t2;obtain⟨H6,hH6⟩:∃H6,H6=h3.set nb (some (e_.aA 9 [[w5.lv,w5.hv,w5.av,x',w5.dv,w5.tv,w5.ev,w5.qv,.aE false]] false)):=⟨_,rfl⟩;rw[<-hH6]at t1 t2;simp only[go_sem,k0,k5',row5,B5,g1,sx,gC sx,n3,<-hH6];have row6:=t2.aA;simp only[fX.aA]at row6;have C6:=(t1.z H3.length (by have:=s5.aD;omega) ((s5.aC H3.length (by omega)).trans c0)).trans C5;have hd6:=t1.aE hd5;obtain⟨n0',j0',lrow',lg',r',u1,u2,u3,u4,u5,u6,u7,-,-⟩:=t2.aI (k:=k) hkl;simp only[self']at u5;have ul':=(Up.1 u3).1;simp only[go_sem,k1,row6,u1,u2,u3];obtain⟨⟨gg',ff',rAt'⟩,-⟩:=u5;refine fA ⟨ur.1,ur.2 H6 r' y ⟨_,_,rAt'.aA⟩⟩ ?_;rintro _ h9 ⟨rfl,e9⟩;rw[e9];clear e9 h9;have s6:=(s4.aA s5).aA t1;by_cases c:y.aG=2
 ·have ew:IntKind.i64.wrap ((k:Int)+1)=(k:Int)+1:=gi (by omega);simp only[go_sem,k0,k1,Uu c,C6,ew];have l:=lead c;refine fA ⟨ul.1,ul.2 Λ6 H6 nb _ _ ((k:Int)+1) y.aA _ t2 ⟨l.aE,l.aD,l.ok,l.aA,l.aC⟩ hd6⟩ ?_;rintro _ H7 ⟨Λ7,w7,s7,wr7,a7⟩;simp only[go_sem];refine⟨Λ7,w7,s6.aA s7,wr7.trans wr5,?_⟩;have e:v.aI k o y D' n={v with aE:=v.aE.set k y.aA,aC:=v.aC.set k ((n+o.aF.length:Nat):Int),aG:=v.aG++o.aD,aA:=D',aD:=v.aD++List.replicate (D'.length-v.aA.length) y.aA.aC,aF:=if y.aA.aC∈v.aF then v.aF else v.aF++[y.aA.aC],aH:=if y.aA.aC∈v.aF then v.aH else v.aH++[(k:Int)+1]}:=by
   unfold iZ.aI;by_cases c2:y.aA.aC∈v.aF;·rw[Uw (λz=>z.2 c2),Uw (λz=>z.2 c2),Uv c2,Uv c2]
   ·rw[Uv ⟨c,c2⟩,Uv ⟨c,c2⟩,Uw c2,Uw c2]
  rw[e];exact a7
 ·simp only[go_sem,Us c];refine⟨Λ6,{w5 with pv:=x'},s6,wr5,?_⟩;have e:v.aI k o y D' n={v with aE:=v.aE.set k y.aA,aC:=v.aC.set k ((n+o.aF.length:Nat):Int),aG:=v.aG++o.aD,aA:=D',aD:=v.aD++List.replicate (D'.length-v.aA.length) y.aA.aC}:=by unfold iZ.aI;rw[Uw (λz=>c z.1),Uw (λz=>c z.1)]
  rw[e];exact t2
def iF (x:gw):iZ:=⟨x.l,x.l.map eZ.aA,x.l.map eZ.aH,x.aA,x.aC,x.aK,x.aE,x.aG⟩
section
variable {c0:fq} {B K B' K':Nat} {x:gw} {k:Nat} {y:RX}
theorem uB.of (ok:ic c0 B K x)(u:ic c0 B' K' (x.aD k y))(hk:k<x.l.length) (ti:nu x x.l[k].aA x.l[k].aH y) (hK:K'<=130000) (few:y.o.aA.length<=2^40) (po:(x.aA.length+y.o.aD.length)*200<=2^46) (tl:x.aE.length<=2^29) (dl:(gQ x.aC y.r).length<=2^29):
  ∃n,uB {iF x with l:=x.l.set k y.r} k y.o y.r (gQ x.aC y.r) n/\({iF x with l:=x.l.set k y.r}:iZ).aI k y.o y.r (gQ x.aC y.r) n=iF (x.aD k y):=by
 have l5:=ok.aD;have fit:y.r.aD K':=by have:=u.aC k (by show k<(x.l.set k y.r).length;simpa using hk);have e:(x.aD k y).l[k]'(by show k<(x.l.set k y.r).length;simpa using hk)=y.r:=VC ..;rw[e]at this;exact this
 have mem:=u.aE k (by show k<(x.l.set k y.r).length;simpa using hk);have e:(x.aD k y).l[k]'(by show k<(x.l.set k y.r).length;simpa using hk)=y.r:=VC ..;rw[e]at mem;obtain⟨n,a1,a2,a3,a4,a5,a6⟩:=ti.aA;have fk:y.r.aA.aJ 130000:=fit.aS hK;refine⟨n,⟨⟨by omega,by simp[iF,l5]⟩,?_,λh=>?_,fk,⟨⟨by omega,by simp[iF,l5],by simp[iF,l5]⟩,λh1 h2=>?_,a2,a4,ti.aF,a5,⟨a6,dl⟩,λe he=>?_,ok.aJ⟩,po,few,λrole=>?_⟩,?_⟩;·show (x.l.set k y.r)[k]?=some y.r;rw[Ux hk]
 ·have e:(x.l.map eZ.aA)[k]'h=x.l[k].aA:=List.getElem_map ..;show nC ((x.l.map eZ.aA)[k]'h) _ _;rw[e];exact ti.aC
 ·rw[a1];have e1:((x.l.map eZ.aA).set k y.r.aA)[k]'h1=y.r.aA:=VC ..;have e2:(x.l.map eZ.aH)[k]'h2=x.l[k].aH:=List.getElem_map ..;show (if y.o.aC=true then y.r.aA.aA.aA else x.l[k].aH)=if y.o.aC=true then (((x.l.map eZ.aA).set k y.r.aA)[k]'h1).aA.aA else (x.l.map eZ.aH)[k]'h2
  rw[e1,e2]
 ·have:=fit.aI e (ti.aD e he);have:=this.1.2;omega
 ·obtain⟨p1,p2⟩:=ti.aE role;have thL:=ok.aJ;refine⟨λi t j h1 h2 h3=>(p1 i t j h1 h2 h3).trans mem.1,p2,fk.aF (by omega),⟨ok.aK,tl⟩,?_,dl⟩;show (x.aK++List.replicate ((gQ x.aC y.r).length-x.aC.length) y.r.aA.aC).length=(gQ x.aC y.r).length;simp only[Ut,VN];omega
 ·have E:(k:Int)+1=y.r.id:=mem.1.symm;simp only[iZ.aI,iF,gw.aD,a3,E,List.map_set];congr 1<;>(split<;>simp_all)
theorem fW.aV {Λ:Nat->Nat}{h h':eW}{nb:Nat}{w:fX}{v:iZ}{k:Nat}{y:RX}{res:AV}(a:fW Λ h nb w v)(hk:k<w.rs.length)(u:k<v.l.length) (b:jT (gR k Λ) h w.rs[k] y res h'):
  ∃Λ' ma ca aa,res=.aF [ma,ca,aa,.aA .i64 y.o.aE,.aE y.o.aC]/\gA Λ h Λ' h'/\fW Λ' h' nb w {v with l:=v.l.set k y.r}/\Rd (Zs Λ' h') h' (td y.o.aD) ma/\Rd (Zs Λ' h') h' (nV y.o.aA) ca/\Rd (Zs Λ' h') h' (gN y.o.aF) aa:=by
 obtain⟨L',m1,e,⟨ma,ca,aa,rfl,oa,ob,oc,-,-⟩,hx⟩:=b.aA (a.aF k hk u);obtain⟨n1,n2,n3⟩:=a.bC hk u m1 e hx;have z:∀j,j=3\/j=4\/j=5->∀m,(h.length<=m/\m<h'.length)/\L' m=j->Zs (mH k Λ h.length (mu L')) h' m:=by intro j hj m hm;refine⟨n3 m hm.1.1 ?_,hm.1.2⟩;unfold mu;rw[Uw (by omega)]
 have pz:∀m,gR k Λ m=0->¬wA (gR k Λ m):=λm e=>by rw[e];simp[wA]
 refine⟨_,ma,ca,aa,rfl,⟨hx.1,n2,λm hm c=>hx.2 m hm (pz m (by unfold gR;rw[c];split<;>omega)),λm hm c=>hx.2 m hm (pz m (by unfold gR;rw[Uw (by have:=a.aD;omega)]))⟩,n1,eX.rd _ (z 3 (by omega)) _ oa,eX.rd _ (z 4 (by omega)) _ ob,eX.rd _ (z 5 (by omega)) _ oc⟩
theorem lQ.aD {P:Program}{ft:FuncId}(ut:lQ P ft){Λ:Nat->Nat}{h h':eW}{nb:Nat}{w:fX}{res:AV}{KK:AV->eW->Prop}(a:fW Λ h nb w (iF x))(ok:ic c0 B K x)(e:ic c0 B' K' (x.aD k y))(hk:k<x.l.length) (ti:nu x x.l[k].aA x.l[k].aH y) (hK:K'<=130000) (few:y.o.aA.length<=2^40)
  (po:(x.aA.length+y.o.aD.length)*200<=2^46) (tl:x.aE.length<=2^29) (dl:(gQ x.aC y.r).length<=2^29) (hr:k<w.rs.length) (b:jT (gR k Λ) h w.rs[k] y res h')
  (u:∀v Λ2 h2 w2,gA Λ h Λ2 h2->w2.rs=w.rs->fW Λ2 h2 nb w2 (iF (x.aD k y))->KK v h2):mN P ft [.aC nb 9 0 0,.aA .i64 k,res] h' KK:=by
 obtain⟨Λ1,ma,ca,aa,rfl,s1,a1,r1,r2,r3⟩:=a.aV hr hk b;obtain⟨n,t1,t2⟩:=uB.of ok e hk ti hK few po tl dl;refine fA ⟨ut.1,ut.2 Λ1 h' nb w _ k y.o y.r _ n ma ca aa a1 t1 r1 r2 r3⟩ ?_;rintro v h2 ⟨Λ2,w2,s2,e2,a2⟩;exact u v Λ2 h2 w2 (s1.aA s2) e2 (by rw[<-t2];exact a2)
structure jL (N:Nat)(x:gw):Prop where
 aA:x.aA.length<=21*N
 aE:x.aE.length<=N
 aC:x.aC.length<=130000*N
theorem jL.aD {N N':Nat}(h:jL N x)(hn:N<=N'):jL N' x:=⟨by have:=h.aA;omega,by have:=h.aE;omega,by have:=h.aC;omega⟩
theorem BL {D:Es}{r:eZ}{K:Nat}(h:r.aA.aA.es.length<=K):(gQ D r).length<=D.length+K:=by
 unfold gQ;split;·simp only[UD,f_,gF,Ut];omega
 ·omega
theorem jL.aF {N:Nat}(h:jL N x)(f:y.r.aD K')(hK:K'<=130000)(sa:y.aD 21):jL (N+1) (x.aD k y):=by
 refine⟨?_,?_,?_⟩;·show (x.aA++y.o.aD).length<=_;have:=h.aA;have sa:y.o.aD.length<=21:=sa;simp only[Ut];omega
 ·show (if _ then x.aE++[_] else x.aE).length<=_;have:=h.aE;split;·simp only[Ut,Vn];omega
  ·omega
 ·have:=BL (D:=x.aC) f.aL;have:=h.aC;show (gQ x.aC y.r).length<=_;omega
theorem ic.aI (u:ic c0 B' K' (x.aD k y))(hk:k<x.l.length):y.r.aD K':=by have:=u.aC k (by show k<(x.l.set k y.r).length;simpa using hk);have e:(x.aD k y).l[k]'(by show k<(x.l.set k y.r).length;simpa using hk)=y.r:=VC ..;rw[e]at this;exact this
theorem lQ.aC {P:Program}{ft:FuncId}(ut:lQ P ft){Λ:Nat->Nat}{h h':eW}{nb N:Nat}{w:fX}{res:AV}{KK:AV->eW->Prop}(a:fW Λ h nb w (iF x))(ok:ic c0 B K x)(u:ic c0 B' K' (x.aD k y))(hk:k<x.l.length) (ti:nu x x.l[k].aA x.l[k].aH y) (hK:K'<=130000) (bb:jL N x) (hN:N<4000) (te:y.aE 2) (sa:y.aD 21)
  (hr:k<w.rs.length) (b:jT (gR k Λ) h w.rs[k] y res h')
  (E:∀v Λ2 h2 w2,gA Λ h Λ2 h2->w2.rs=w.rs->fW Λ2 h2 nb w2 (iF (x.aD k y))->jL (N+1) (x.aD k y)->KK v h2):mN P ft [.aC nb 9 0 0,.aA .i64 k,res] h' KK:=by
 have f:=u.aI hk;have b1:=bb.aA;have b2:=bb.aE;have b3:=bb.aC;have te':y.o.aA.length<=2:=te;have sa':y.o.aD.length<=21:=sa;have dl:=BL (D:=x.aC) f.aL;exact ut.aD a ok u hk ti hK (by omega) (by omega) (by omega) (by omega) hr b (λv Λ2 h2 w2 s e a2=>E v Λ2 h2 w2 s e a2 (bb.aF f hK sa))
end
section
variable {F:Nat->Prop} {h:eW} {sz:Nat} {v:AV} {es:List (List AV)}
theorem gE.aH (c:gE F h sz v es){i:Nat}(hi:i<=es.length):∃a,iB sz v none (some (i:Int)) none=some a/\iK h sz a=some (es.take i)/\a.aH=true:=by
 rcases c with⟨rfl,rfl⟩ | ⟨n,off,cap,row,g,rfl,-,h3,h4,h5,-,-,h8⟩;·simp at hi;subst hi;exact⟨.aD,by simp[iB],rfl,rfl⟩
 ·have hc:(i:Int)<=((cap.getD es.length:Nat):Int):=by
   cases cap with
   | none=>simp;omega
   | some c=>have:=h5 c rfl;simp;omega
  refine⟨.aG n sz off i (jB none 0 cap),?_,?_,rfl⟩;·simp only[iB,Vv,U6];rw[Uv ⟨UF,by omega,by omega,by omega,by omega,hc⟩];simp
  ·simp only[iK,h3];rw[Uv ⟨UF,UF,by omega⟩];rw[<-h8,Va,Vk hi]
theorem gE.aI (c:gE F h sz v es){i:Nat}(hi:i<=es.length):∃a,iB sz v (some (i:Int)) none none=some a/\iK h sz a=some (es.drop i)/\a.aH=true:=by
 rcases c with⟨rfl,rfl⟩ | ⟨n,off,cap,row,g,rfl,-,h3,h4,h5,-,-,h8⟩;·simp at hi;subst hi;exact⟨.aD,by simp[iB],rfl,rfl⟩
 ·have hc:(es.length:Int)<=((cap.getD es.length:Nat):Int):=by
   cases cap with
   | none=>simp
   | some c=>have:=h5 c rfl;simp;omega
  have cond:True/\0<=(i:Int)/\(i:Int)<=(es.length:Int)/\((es.length:Int)<=(es.length:Int)\/cap.isSome=true)/\(es.length:Int)<=(es.length:Int)/\(es.length:Int)<=((cap.getD es.length:Nat):Int):=⟨UF,by omega,by omega,.inl (by omega),by omega,hc⟩;by_cases c0:i=0
  ·subst c0;refine⟨.aG n sz off es.length (jB none 0 cap),?_,?_,rfl⟩;·simp only[iB,Vv,U6];rw[Uv cond];simp
   ·simp only[iK,h3];rw[Uv ⟨UF,UF,by omega⟩,h8];simp
  ·by_cases c1:i<es.length
   ·refine⟨.aG n sz (off+i) (es.length-i) (jB none i cap),?_,?_,rfl⟩;·simp only[iB,Vv,U6];rw[Uv cond,Uw (by omega),Uv (by omega)];simp
    ·simp only[iK,h3];rw[Uv ⟨UF,UF,by omega⟩];have e:es.drop i=((row.drop off).take es.length).drop i:=by rw[h8]
     rw[e,List.drop_take,List.drop_drop]
   ·refine⟨.aM 0 false sz [],?_,?_,rfl⟩;·simp only[iB,Vv,U6];rw[Uv cond,Uw (by omega),Uw (by omega)]
    ·rw[Wh (by omega)];simp[iK]
end
theorem fW.aZ {Λ:Nat->Nat}{h h':eW}{nb:Nat}{w:fX}{v:iZ}(a:fW Λ h nb w v){p:AV}{ms:List fE}{rows:List (List AV)}(hx:eV eY h h')(hp:gE (λm=>h.length<=m) h' 17 p rows)(hr:fY (Zs Λ h) h' (ms.map fE.c) rows):
  ∃Λ',gA Λ h Λ' (h'.set nb (some (.aA 9 [({w with pv:=p}:fX).aA] false)))/\fW Λ' (h'.set nb (some (.aA 9 [({w with pv:=p}:fX).aA] false))) nb {w with pv:=p} {v with aG:=ms}:=by
 have nbl:=(Up.1 a.aA).1;have hl:=hx.1;obtain⟨r1,s1⟩:=a.aQ (h':=h'.set nb (some (.aA 9 [({w with pv:=p}:fX).aA] false))) (j:=105) (by omega) (by simp;exact hl) (λm hm _ e=>(Uq (λy=>e y.symm)).trans (hx.2 m hm (λy=>y)));refine⟨_,s1,r1.lt,r1.aC,Ux (by omega),r1.aD,r1.l (by omega),r1.aA,r1.aJ (by omega),r1.aI (by omega),⟨rows,hp.aA (λm hm hlt=>?_) (λm hm hlt=>Uq (λy=>by have:h.length<=m:=hm;omega)),fY.aA s1.zs (λm hm y hy=>?_) _ _ hr⟩,r1.aE (by omega),r1.aH (by omega),r1.aG (by omega),r1.aF (by omega)⟩;·have hm':h.length<=m:=hm;show kL _ _ _ _ m=105;unfold kL;rw[Uw (by omega),Uv (by simpa using hlt)]
 ·have:m≠nb:=λy=>by have:=hm.1;rw[y,a.aC]at this;omega
  exact (Uq (λy=>this y.symm)).trans hy
def gw.aH (x:gw)(i:Nat):gw:={x with aA:=x.aA.take i++x.aA.drop (i+1)}
def gw.aF (x:gw)(i:Nat)(m:fE):gw:=if h:1<=m.to/\m.to<=5/\(m.to-1).toNat<x.l.length then (x.aH i).aD (m.to-1).toNat (x.l[(m.to-1).toNat].a_ m) else x.aH i
def vQ (P:Program)(f:FuncId):Prop:=fP P f=true/\∀(Λ:Nat->Nat)(h:eW)(nb N:Nat)(w:fX)(x:gw)(c0:fq)(B K i:Nat)(hi:i<x.aA.length),fW Λ h nb w (iF x)->ic c0 B K x->jL N x->B<=2^30->K+200<130000->N<4000->
 fC P f [.aC nb 9 0 0,.aA .i64 i] h λ_ h'=>∃Λ' w',gA Λ h Λ' h'/\w'.rs=w.rs/\fW Λ' h' nb w' (iF (x.aF i x.aA[i]))/\ic c0 (B+1) (K+200) (x.aF i x.aA[i])/\jL (N+1) (x.aF i x.aA[i])
theorem Lg {P:Program}{f fs ft:FuncId}(hf:Is P f (zQ fs ft))(us:yQ P fs)(ut:lQ P ft):vQ P f:=by
 refine⟨hf.2,λΛ h nb N w x c0 B K i hi a ok bb hB hK hN=>fU hf ?_⟩;have row:=a.aA;simp only[fX.aA]at row;obtain⟨n0,j,prow,g,e,d,e1,e2,e3,he,hd,e6⟩:=a.aU (i:=i) hi;have jl:=(Up.1 e3).1;have se:=he.aA;have sd:=hd.aA;have bp:=bb.aA;have ip:(i:Int)<2^40:=by have:x.aA.length<=21*N:=bp;omega
 have ew:IntKind.i64.wrap ((i:Int)+1)=((i+1:Nat):Int):=by rw[gi (by omega)];omega
 generalize hm:x.aA[i]=m at *;have E:(iF x).aG[i]'hi=m:=hm;rw[E]at e3 he hd;obtain⟨H,hH⟩:∃H,H=h++[some (e_.aA 17 [m.aE e d] false)]:=⟨_,rfl⟩;have X1:eV eY h H:=by rw[hH];exact eV.b1 _
 have B1:H[h.length]?=some (some (e_.aA 17 [m.aE e d] false)):=by rw[hH];exact gH _ _
 have a1:=a.up X1;have s1:gA Λ h Λ H:=gA.up X1;have a6:H.length=h.length+1:=by rw[hH];simp
 have z0:Λ h.length=0:=a.aE (Uy _);simp only[fE.aE]at e3 hH B1;simp only[zQ,go_sem,row,e1,e2,e3,se,sd];rw[<-hH];clear hH;have u:=X1.aA row;have R1:∀y,(H++[y])[nb]?=_:=λy=>(eV.b1 y).aA u;have nbl:=(Up.1 u).1;obtain⟨rows,p1,p2⟩:=a1.aG;have lrows:rows.length=x.aA.length:=by have:=lF p2;simpa [iF] using this
 obtain⟨H1,W⟩:∃H1,H1=H++[some (e_.aA 17 [] false)]:=⟨_,rfl⟩;have X2:eV eY H H1:=by rw[W];exact eV.b1 _
 have hl2:H1.length=H.length+1:=by rw[W];simp
 have cz:gE (λm=>H.length<=m) H1 17 (.aG (h.length+1) 17 0 0 (some 0)) []:=.inr ⟨h.length+1,0,some 0,[],false,rfl,by show H.length<=_;omega,by rw[W,<-a6];exact gH _ _,by simp,(λc hc=>by simp),(λhc=>by cases hc),(λc hc=>by cases hc;simp),rfl⟩;have a5:gE (λm=>Λ m=105) H1 17 w.pv rows:=p1.aA (λ_ y _=>y) (λm _ hlt=>X2.2 m hlt (λy=>y));obtain⟨v1,q1,q2,q3⟩:=a5.aH (i:=i) (by omega);obtain⟨v3,h3,g1,c3,x3⟩:=cz.aC (bytes:=168) (ys:=rows.take i) (eV.aC _ H1) (by simp only[UJ,UD];have:x.aA.length<=21*N:=bp;omega);rw[<-iq q2,W]at g1;have X3:eV eY H h3:=X2.aJ x3 (λm hm E=>by have:H.length<=m:=E;omega);have p3:gE (λm=>Λ m=105) h3 17 w.pv rows:=p1.aA (λ_ y _=>y) (λm _ hlt=>X3.2 m hlt (λy=>y));obtain⟨v2,r1,r2,r3⟩:=p3.aI (i:=i+1) (by omega);obtain⟨v4,h4,g2,c4,x4⟩:=c3.aC (bytes:=168) (ys:=rows.drop (i+1)) (eV.aC _ h3) (by simp only[VH,UD,UP];have:x.aA.length<=21*N:=bp;omega);rw[<-iq r2]at g2;have X4:eV eY H h4:=X3.aJ x4 (λm hm E=>by have hm'':(H.length<=m/\m<H1.length)\/H1.length<=m:=E;omega);have M:=X4.aA u;have nl4:=(Up.1 M).1;have s4:=c4.aE;have nbh:nb<h.length:=(Up.1 row).1;have N1:∀sz i o,gW (h.length+1) 1 (.aC nb sz i o)=true:=λsz i o=>iu (by omega);have R3:=X3.aA u;have B4:=X4.aA B1;have nne:¬nb=h.length:=by omega
 obtain⟨Λ5,t1,t2⟩:=a1.aZ (ms:=x.aA.take i++x.aA.drop (i+1)) (rows:=[]++rows.take i++rows.drop (i+1)) X4 (c4.aA (λm hm _=>by have E:((H.length<=m/\m<H1.length)\/H1.length<=m)/\m<h3.length\/h3.length<=m:=hm;show H.length<=m;have:=X3.1;omega) (λ_ _ _=>rfl)) (by rw[VH,Ve,V6,Wy];have a2:fY (Zs Λ H) h4 (x.aA.map fE.c) rows:=fY.aA (λ_ y=>y) (X4.aE _) _ _ p2;exact uy (yT a2 i) (yS a2 (i+1)));simp only[fX.aA]at t1 t2;obtain⟨H5,Z⟩:∃H5,H5=h4.set nb (some (e_.aA 9 [[w.lv,w.hv,w.av,v4,w.dv,w.tv,w.ev,w.qv,.aE false]] false)):=⟨_,rfl⟩;rw[<-Z]at t1 t2;have B5:=(t1.z h.length (by omega) z0).trans B1;have t2:fW Λ5 H5 nb {w with pv:=v4} (iF (x.aH i)):=t2;have s5:=s1.aA t1;simp only[go_sem,jK,R1,q1,r1,ew,g1,g2,s4,gC s4,M,N1,R3,<-Z,B5];clear Z;have bl:jL N (x.aH i):=⟨by have:x.aA.length<=21*N:=bp;show (x.aA.take i++x.aA.drop (i+1)).length<=_;simp only[Ut,UD,UP];omega,bb.aE,bb.aC⟩;have O:∀y∈x.aA.take i++x.aA.drop (i+1),y∈x.aA:=λy hy=>by
  rcases U4.1 hy with hy | hy;·exact U9 hy
  ·exact UX hy
 have a3:ic c0 B K (x.aH i):=ok.aF O;have no:¬(1<=m.to/\m.to<=5)->∃Λ' w',gA Λ h Λ' H5/\w'.rs=w.rs/\fW Λ' H5 nb w' (iF (x.aF i m))/\ic c0 (B+1) (K+200) (x.aF i m)/\jL (N+1) (x.aF i m):=by
  intro c;have ec:x.aF i m=x.aH i:=by unfold gw.aF;rw[dif_neg (λz=>c ⟨z.1,z.2.1⟩)]
  rw[ec];exact⟨Λ5,{w with pv:=v4},s5,rfl,t2,a3.aA (by omega) (by omega),bl.aD (by omega)⟩
 by_cases c1:1<=m.to
 ·by_cases c2:m.to<=5
  ·obtain⟨k,hk⟩:∃k:Nat,m.to=k+1:=⟨(m.to-1).toNat,by omega⟩;have l5:=ok.aD;have U:k<x.l.length:=by omega
   have ec:x.aF i m=(x.aH i).aD k (x.l[k].a_ m):=by
    have ek:(m.to-1).toNat=k:=by omega
    unfold gw.aF;rw[dif_pos ⟨c1,c2,by omega⟩];simp only[ek]
   have aa:IntKind.i64.wrap (m.to-1)=(k:Int):=by rw[gi (by omega)];omega
   have I:=t2.aA;simp only[fX.aA]at I;obtain⟨n1,j1,lrow,lg,r,u1,u2,u3,u4,u5,u6,u7,-,-⟩:=t2.aI (k:=k) U;have ul:=(Up.1 u3).1;have a8:=s5.rd he;have a9:=s5.rd hd;simp only[go_sem,Uu c1,Uu c2,B5,aa,I,u1,u2,u3];have mp:m∈x.aA:=by rw[<-hm];exact UT _
   have mf:=ok.aH hB mp;obtain⟨o1,o2⟩:=ok.aO hB hK U mp hk O;have f:=ok.aC k U;have ma:lC (gR k Λ5) H5 m (m.aE e d):=⟨Zs Λ5 H5,Cf a8 a9,λn hn=>by unfold gR;rw[hn.1];split<;>omega⟩;simp only[fE.aE]at ma;refine fA ⟨us.1,us.2 (gR k Λ5) H5 r x.l[k] K m _ u5 f (by omega) ma mf⟩ ?_;rintro v h6 ro;obtain⟨hr,er⟩:=Up.1 u4;have z5:Λ5 h.length=0:=(t1.aC h.length (by omega)).trans z0;have ac:h6[h.length]?=H5[h.length]?:=by obtain⟨_,_,_,_,_,_,_,_,_,_,_,hx⟩:=id ro;refine hx.2 h.length (Up.1 B5).1 (λy=>y ?_);unfold gR;rw[z5];split<;>omega
   have B6:=ac.trans B5;simp only[go_sem,B6];have ab:r=({w with pv:=v4}:fX).rs[k]:=er.symm;rw[ab]at ro;refine ut.aC t2 a3 o1 U o2 (by omega) bl hN (RX.aE.aP _ _) (RX.aD.aP _ f.aH _) hr ro (λv7 Λ7 h7 w7 s7 a4 a7 b7=>?_);simp only[go_sem];refine⟨Λ7,w7,s5.aA s7,a4,?_⟩;rw[ec];exact⟨a7,o1,b7⟩
  ·simp only[go_sem,Uu c1,Us c2,B5];exact no (λz=>c2 z.2)
 ·simp only[go_sem,Us c1];exact no (λz=>c1 z.1)
end Glb
