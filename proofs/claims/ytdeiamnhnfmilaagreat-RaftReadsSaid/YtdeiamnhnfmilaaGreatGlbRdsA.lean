/-
  A library of its own.
-/
import Derived.Test.YtdeiamnhnfmilaaGreatGlbNetB
set_option linter.unusedSimpArgs false
set_option linter.unusedVariables false
set_option maxRecDepth 10000
set_option maxHeartbeats 8000000
namespace Glb
open Go
structure oz (R:Int)(m:fE):Prop where
 aD:m.aD≠5
 es:∀e∈m.es,e.aD≠2
 aC:m.aD=3->m.aC=1->m.aK<=R
 aA:m.aD=4->m.to=1->m.aK<=R
theorem oz.aE {R R':Int}{m:fE}(h:oz R m)(hR:R<=R'):oz R' m:=⟨h.aD,h.es,λa b=>Wa (h.aC a b) hR,λa b=>Wa (h.aA a b) hR⟩
structure ga (C:fq)(T N:Int)(S:List Int)(R:Int)(x:RX):Prop where
 aA:x.r.aA.aA.aA=0
 aC:x.r.aA.aD=C
 es:∀e∈x.r.aA.aA.es,e.aD≠2
 fl:∀f∈x.r.aC,(1<=f.aC/\0<=f.aE)/\(x.r.id=1->f.aG<=R/\(x.r.aG=2->x.r.aA.aC=T->N<=f.aG->f.aD∈S))
 rd:x.r.id=1->x.r.aL=R
 aD:∀m∈x.o.aD,oz R m
section
variable {C:fq} {T N R:Int} {S:List Int} {x y:RX} {m:fE}
theorem ga.aF (h:ga C T N S R x) (hm:oz R {m with aC:=x.r.id,aM:=x.r.aA.aE,aF:=x.r.aA.aC}):ga C T N S R (x.aK m):=
 ⟨h.aA,h.aC,h.es,h.fl,h.rd,λq hq=>(U4.1 hq).elim (h.aD q) λhq=>by rw[Wc.1 hq];exact hm⟩
theorem So {l:fu}{a b:Int}{e:fT}(h:e∈l.aI a b):e∈l.es:=by
 unfold fu.aI at h;split at h;·cases h
 ·exact UX (U9 h)
theorem ga.to (h:ga C T N S R x){f:fR}(hf:1<=f.aC):ga C T N S R (x.to f):=by have b:=h.aA;refine h.aF (m:=f.aI x.r.id x.r.aA x.r.aE x.r.aL) ?_;unfold fR.aI;rw[Uw (by omega)];exact⟨(by decide:(3:Int)≠5),λe he=>h.es e (So he),λ_ z=>Int.le_of_eq (h.rd z),λz=>absurd z (by decide:¬(3:Int)=4)⟩
theorem ga.aK:∀{l:List fR}{x:RX},ga C T N S R x->(∀f∈l,1<=f.aC)->ga C T N S R (x.aO l)
 | [],_,h,_=>h
 | f :: l,_,h,hl=>ga.aK (l:=l) (h.to (hl f List.mem_cons_self)) λg hg=>hl g (Ws _ hg)
theorem ga.on (h:ga C T N S R x):ga C T N S R x.on:=h.aK λf hf=>(h.fl f hf).1.1
theorem ga.aO:∀{l:List fE}{x:RX},ga C T N S R x->(∀m∈l,m.aD=1/\m.es=[])->ga C T N S R (x.aM l)
 | [],_,h,_=>h
 | m :: l,_,h,hl=>ga.aO (l:=l) (h.aF (m:=m) (by obtain⟨a,b⟩:=hl m List.mem_cons_self;exact⟨by show m.aD≠5;omega,by show ∀e∈m.es,_;rw[b];nofun,λz=>by have:m.aD=3:=z;omega,λz=>by have:m.aD=4:=z;omega⟩)) λg hg=>hl g (Ws _ hg)
theorem ga.aJ (h:ga C T N S R x):ga C T N S R x.aH:=by
 have e:x.aH.r.aA=x.r.aA/\x.aH.r.aC=x.r.aC/\x.aH.r.id=x.r.id/\x.aH.r.aG=x.r.aG/\x.aH.r.aL=x.r.aL:=by show x.r.aV.aA=_/\x.r.aV.aC=_/\x.r.aV.id=_/\x.r.aV.aG=_/\x.r.aV.aL=_;unfold eZ.aV;split<;>exact⟨rfl,rfl,rfl,rfl,rfl⟩
 obtain⟨e1,e2,e3,e4,e5⟩:=e;exact⟨by rw[e1];exact h.aA,by rw[e1];exact h.aC,by rw[e1];exact h.es,by rw[e1,e2,e3,e4];exact h.fl,by rw[e3,e5];exact h.rd,h.aD⟩
theorem ga.aH (h:ga C T N S R x){r:eZ}(e1:r.aA.aA=x.r.aA.aA)(e2:r.aA.aD=x.r.aA.aD)(e3:r.id=x.r.id)(e4:r.aL=x.r.aL) (e5:r.aC=[]) {o:kT} (e6:o.aD=x.o.aD):ga C T N S R ⟨r,o⟩:=
 ⟨by rw[e1];exact h.aA,e2.trans h.aC,by rw[e1];exact h.es,by rw[e5];nofun,by rw[e3,e4];exact h.rd,by rw[e6];exact h.aD⟩
theorem ga.aE (h:ga C T N S R x){r:eZ}(e1:r.aA=x.r.aA)(e3:r.id=x.r.id)(e4:r.aL=x.r.aL)(e5:r.aC=x.r.aC)(e6:r.aG=x.r.aG){o:kT}(e7:o.aD=x.o.aD):ga C T N S R ⟨r,o⟩:=
 ⟨by rw[e1];exact h.aA,by rw[e1];exact h.aC,by rw[e1];exact h.es,by show ∀f∈r.aC,_/\(r.id=1->_/\(r.aG=2->r.aA.aC=T->_));rw[e1,e3,e5,e6];exact h.fl,by rw[e3,e4];exact h.rd,by rw[e7];exact h.aD⟩
theorem ga.aL (h:ga C T N S R x){k:Int}{d:List Int}(hk:k≠2):ga C T N S R (x.aF k d):=by
 unfold RX.aF;simp only;rw[Uw hk];refine⟨?_,h.aC,?_,h.fl,h.rd,h.aD⟩;·show (x.r.aA.aA.aE x.r.aM _).aA=0;rw[show x.r.aM=x.r.aA.aA.aC from rfl,qA];exact h.aA
 ·show ∀e∈(x.r.aA.aA.aE x.r.aM _).es,_;rw[show x.r.aM=x.r.aA.aA.aC from rfl,qA];intro e he;rcases U4.1 he with z | z;·exact h.es e z
  ·rw[Wc.1 z];exact hk
theorem ga.aM (h:ga C T N S R x)(hN:0<N)(hR:0<=R):ga C T N S R x.aN:=by unfold RX.aN;simp only;refine ((ga.aL (k:=0) (d:=[]) ?_ (by decide)).on).aJ;refine⟨h.aA,h.aC,h.es,λf hf=>?_,h.rd,h.aD⟩;obtain⟨n,-,rfl⟩:=Vz.1 hf;have b:=h.aA;show (1<=x.r.aA.aA.aC+1/\(0:Int)<=0)/\(_->(0:Int)<=R/\(_->_->N<=0->_));refine⟨⟨by unfold fu.aC;omega,UL _⟩,λ_=>⟨hR,λ_ _ z=>by omega⟩⟩
theorem ga.aW (h:ga C T N S R x)(hN:0<N)(hR:0<=R)(d:Int):ga C T N S R (x.aV d):=by
 unfold RX.aV;simp only;have g:ga C T N S R ⟨{((x.aI (x.r.aA.aC+1) x.r.id).aL 0).r with aG:=1,aK:=0,aY:=lZ d,aI:=[x.r.id]},((x.aI (x.r.aA.aC+1) x.r.id).aL 0).o⟩:=by refine h.aH ?_ ?_ ?_ ?_ ?_ ?_<;>rfl
 split;·exact g.aM hN hR
 ·refine g.aO λm hm=>?_;obtain⟨n,-,rfl⟩:=Vz.1 hm;exact⟨rfl,rfl⟩
theorem ga.aG (h:ga C T N S R x):ga C T N S R x.aA:=by
 have k:ga C T N S R ⟨x.r.aT,x.o⟩:=by
  unfold eZ.aT;split;·refine h.aH ?_ ?_ ?_ ?_ ?_ ?_<;>rfl
  ·exact h
 unfold RX.aA;simp only;split;·exact k
 ·refine k.aE ?_ ?_ ?_ ?_ ?_ ?_<;>rfl
theorem ga.aY {r:eZ}(h:ga C T N S R r.aF)(hN:0<N)(hR:0<=R)(d:Int):ga C T N S R (r.aQ d):=by
 unfold eZ.aQ;split
 ·refine ga.aG ?_;split;·refine ga.on ?_;refine h.aE ?_ ?_ ?_ ?_ ?_ ?_<;>rfl
  ·refine h.aE ?_ ?_ ?_ ?_ ?_ ?_<;>rfl
 ·simp only;have h1:ga C T N S R ({r with aK:=r.aK+1}:eZ).aF:=by refine h.aE ?_ ?_ ?_ ?_ ?_ ?_<;>rfl
  refine ga.aG ?_;split;·exact h1.aW hN hR d
  ·exact h1
theorem ga.aR (h:ga C T N S R x):ga C T N S R (x.aQ m):=by
 unfold RX.aQ;simp only;refine ga.aF ?_ ⟨(by decide:(2:Int)≠5),nofun,λz=>absurd z (by decide:¬(2:Int)=3),λz=>absurd z (by decide:¬(2:Int)=4)⟩;split
 ·split;·refine h.aE ?_ ?_ ?_ ?_ ?_ ?_<;>rfl
  ·exact⟨h.aA,h.aC,h.es,h.fl,h.rd,h.aD⟩
 ·exact h
theorem ga.aZ (h:ga C T N S R x)(hN:0<N)(hR:0<=R):ga C T N S R (x.aU m):=by
 unfold RX.aU;split;·exact h
 ·simp only;have h1:ga C T N S R ⟨{x.r with aI:=x.r.aI++[m.aC]},x.o⟩:=by refine h.aE ?_ ?_ ?_ ?_ ?_ ?_<;>rfl
  split;·exact h1.aM hN hR
  ·exact h1
theorem ga.aI (h:ga C T N S R x){ok:Bool}{i:Int}(hm:oz R m)(hk:m.aD=3):ga C T N S R (x.aS m ok i):=
 h.aF ⟨(by decide:(4:Int)≠5),nofun,λz=>absurd z (by decide:¬(4:Int)=3),λ_ z=>hm.aC hk z⟩
theorem NP {l:fu}{p:Int}{es:List fT}{e:fT}(h:e∈(l.aE p es).es):e∈l.es\/e∈es:=by
 unfold fu.aE at h;split at h
 ·rcases U4.1 h with z | z;·exact .inl (U9 z)
  ·exact .inr (UX z)
 ·exact .inl h
theorem NN (l:fu)(p:Int)(es:List fT):(l.aE p es).aA=l.aA:=by unfold fu.aE;split<;>rfl
theorem ga.aQ (h:ga C T N S R x)(hm:oz R m)(hk:m.aD=3) (h0:x.r.aC=[]):ga C T N S R (x.aJ m):=by
 unfold RX.aJ;split;·exact h.aI hm hk
 ·split;·exact h.aI hm hk
  ·simp only;split;·exact h
   ·refine ga.aI ?_ hm hk;have h2:ga C T N S R (if 0<x.r.aA.aA.aH m.aA m.es then ({x with r:={x.r with aA:={x.r.aA with aA:=x.r.aA.aA.aE m.aA m.es}}}:RX).aX {fZ.aI with aC:=2,aE:=x.r.aA.aA.aH m.aA m.es,aA:=⟨0,0,(x.r.aA.aA.aE m.aA m.es).aI (x.r.aA.aA.aH m.aA m.es) (x.r.aA.aA.aE m.aA m.es).es.length⟩} else x):=by
     split;·exact⟨(NN _ _ _).trans h.aA,h.aC,λe he=>(NP he).elim (h.es e) (hm.es e),h.fl,h.rd,h.aD⟩
     ·exact h
    refine h2.aE ?_ ?_ ?_ ?_ ?_ ?_<;>rfl
theorem ga.aS (h:ga C T N S R x){S':List Int}(hS:∀n∈S,n∈S')(hm:oz R m)(hk:m.aD=4)(ht:m.aF=x.r.aA.aC)(I:x.r.id=1->m.to=1)(hn:m.to=1->m.ok=true->m.aF=T->N<=m.aK->m.aC∈S'):ga C T N S' R (x.aP m):=by
 have hw:ga C T N S' R x:=⟨h.aA,h.aC,h.es,λf hf=>⟨(h.fl f hf).1,λi=>⟨((h.fl f hf).2 i).1,λa b c=>hS _ (((h.fl f hf).2 i).2 a b c)⟩⟩,h.rd,h.aD⟩;unfold RX.aP;split;·exact hw
 ·split;·exact hw
  ·rename_i i hi;obtain⟨M,u⟩:=FA hi;have eg:(x.r.aC[i]?).getD ⟨0,0,0,0⟩=x.r.aC[i]:=by rw[Ur M];rfl
   simp only;rw[eg];have fi:=h.fl _ (UT M);have E:1<=(x.r.aC[i].aF m).aC/\0<=(x.r.aC[i].aF m).aE/\(x.r.aC[i].aF m).aD=x.r.aC[i].aD/\((x.r.aC[i].aF m).aG=x.r.aC[i].aG\/(m.ok=true/\(x.r.aC[i].aF m).aG=max x.r.aC[i].aG m.aK)):=by
    unfold fR.aF;rw[Uv ⟨hk,u.symm⟩];split;·rename_i c;exact⟨by show 1<=max _ _;omega,by show 0<=max _ _;omega,rfl,.inr ⟨c,rfl⟩⟩
    ·exact⟨by show 1<=max _ _;omega,fi.1.2,rfl,.inl rfl⟩
   obtain⟨g1,g2,g3,g4⟩:=E;have h1:ga C T N S' R ⟨{x.r with aC:=x.r.aC.set i (x.r.aC[i].aF m)},x.o⟩:=by
    refine⟨h.aA,h.aC,h.es,λf hf=>?_,h.rd,h.aD⟩;rcases Wj hf with z | rfl;·exact hw.fl f z
    ·refine⟨⟨g1,g2⟩,λz=>?_⟩;have z':x.r.id=1:=z;obtain⟨f1,f2⟩:=fi.2 z';have mr:=hm.aA hk (I z');rcases g4 with e | ⟨e0,e⟩;·rw[e,g3];exact⟨f1,λa b c=>hS _ (f2 a b c)⟩
     ·rw[e,g3];refine⟨by omega,λa b c=>?_⟩;by_cases q:N<=x.r.aC[i].aG;·exact hS _ (f2 a b q)
      ·rw[u];exact hn (I z') e0 (ht.trans b) (by omega)
   have h2:ga C T N S' R (if m.ok=true then RX.aH ⟨{x.r with aC:=x.r.aC.set i (x.r.aC[i].aF m)},x.o⟩ else ⟨{x.r with aC:=x.r.aC.set i (x.r.aC[i].aF m)},x.o⟩):=by
    split;·exact h1.aJ
    ·exact h1
   generalize (if m.ok=true then RX.aH ⟨{x.r with aC:=x.r.aC.set i (x.r.aC[i].aF m)},x.o⟩ else ⟨{x.r with aC:=x.r.aC.set i (x.r.aC[i].aF m)},x.o⟩)=z at h2 ⊢;split;·exact h2.to g1
   ·exact h2
theorem ga.aX {r:eZ}(h:ga C T N S R r.aF)(hN:0<N)(hR:0<=R){S':List Int}(hS:∀n∈S,n∈S')(hm:oz R m)(e:r.id=1->m.to=1)(hn:m.aD=4->m.to=1->m.ok=true->m.aF=T->N<=m.aK->m.aC∈S'):ga C T N S' R (r.a_ m):=by
 have up:∀{y:RX},ga C T N S R y->ga C T N S' R y:=λh=>⟨h.aA,h.aC,h.es,λf hf=>⟨(h.fl f hf).1,λi=>⟨((h.fl f hf).2 i).1,λa b c=>hS _ (((h.fl f hf).2 i).2 a b c)⟩⟩,h.rd,h.aD⟩;unfold eZ.a_;refine ga.aG ?_;unfold RX.aT;split;·exact up h
 ·rename_i c0;simp only;have h1:ga C T N S R (if r.aF.r.aA.aC<m.aF then (r.aF.aI m.aF 0).aL 0 else r.aF)/\(if r.aF.r.aA.aC<m.aF then (r.aF.aI m.aF 0).aL 0 else r.aF).r.id=r.id/\m.aF<=(if r.aF.r.aA.aC<m.aF then (r.aF.aI m.aF 0).aL 0 else r.aF).r.aA.aC:=by
   split;·exact⟨by refine h.aH ?_ ?_ ?_ ?_ ?_ ?_<;>rfl,rfl,UL _⟩
   ·rename_i c;exact⟨h,rfl,by show m.aF<=r.aA.aC;have:¬r.aA.aC<m.aF:=c;omega⟩
  generalize (if r.aF.r.aA.aC<m.aF then (r.aF.aI m.aF 0).aL 0 else r.aF)=y at *;obtain⟨h1,u,hle⟩:=h1;split
  ·split;·exact up (h1.aF ⟨(by decide:(2:Int)≠5),nofun,λz=>absurd z (by decide:¬(2:Int)=3),λz=>absurd z (by decide:¬(2:Int)=4)⟩)
   ·split;·exact up (h1.aF ⟨(by decide:(4:Int)≠5),nofun,λz=>absurd z (by decide:¬(4:Int)=3),λ_ _=>hR⟩)
    ·exact up h1
  ·have ht:m.aF=y.r.aA.aC:=by omega
   split;·exact up h1.aR
   ·split;·exact up (h1.aZ hN hR)
    ·split;·rename_i k4;exact h1.aS hS hm k4 ht (λz=>e (u▸z)) (hn k4)
     ·split;·exact up h1
      ·have h2:ga C T N S R ⟨{y.r.aW m.aC with aK:=0},y.o⟩:=by refine h1.aH ?_ ?_ ?_ ?_ ?_ ?_<;>rfl
       split;·rename_i k3;exact up (h2.aQ hm k3 rfl)
       ·rename_i k1 k2 k4 k3' k3;exfalso;have:=hm.aD;simp only[not_or]at c0;omega
theorem ga.aU {r:eZ}(h:ga C T N S R r.aF){k:Int}{d:List Int}(hk:k≠2):ga C T N S R (r.aP k d).2.1:=by
 unfold eZ.aP
 repeat' split
 ·exact h
 ·exact h
 ·exact h
 ·exact h
 ·exact (((h.aL hk).on).aJ).aG
theorem ga.aV {r:eZ}(h:ga C T N S R r.aF)(h1:r.id=1)(he:(r.aR).2.2=0):ga C r.aA.aC (R+1) [] (R+1) (r.aR).2.1/\(r.aR).1=R+1:=by
 unfold eZ.aR at he ⊢;have hr:r.aL=R:=h.rd h1;split at he;·cases he
 ·split at he;·cases he
  ·rename_i c1 c2;rw[Uw c1,Uw c2];have k:ga C r.aA.aC (R+1) [] (R+1) ({r with aL:=r.aL+1}:eZ).aF:=by
    refine⟨h.aA,h.aC,h.es,λf hf=>⟨(h.fl f hf).1,λi=>?_⟩,λ_=>?_,λm hm=>by cases hm⟩;·have:=((h.fl f hf).2 h1).1;exact⟨by omega,λ_ _ z=>by omega⟩
    ·show r.aL+1=_;omega
   show ga _ _ _ _ _ (({r with aL:=r.aL+1}:eZ).aF.on)/\r.aL+1=R+1;exact⟨k.on,by rw[hr]⟩
theorem ga.aT {r:eZ}(h:ga C T N S R r.aF)(h1:r.id≠1)(T' N' R':Int)(S':List Int):ga C T' N' S' R' r.aF:=
 ⟨h.aA,h.aC,h.es,λf hf=>⟨(h.fl f hf).1,λi=>absurd i h1⟩,λi=>absurd i h1,λm hm=>by cases hm⟩
theorem Gv {x:fF}(h:∀e∈x.aA.es,e.aD≠2):∀k,k<=x.aA.es.length->(x.aK k).1=x.aD
 | 0,_=>rfl
 | k+1,hk=>by rw[fF.aS hk,Uw (λz=>h _ (UT hk) z.1)];exact Gv h k (by omega)
theorem ga.aN (h:ga C T N S R x):x.r.aN=C:=(Gv h.es _ (Uy _)).trans h.aC
end
theorem ga.up {C:fq}{T N R:Int}{S S':List Int}{x:RX}(h:ga C T N S R x)(hS:∀n∈S,n∈S'):ga C T N S' R x:=
 ⟨h.aA,h.aC,h.es,λf hf=>⟨(h.fl f hf).1,λi=>⟨((h.fl f hf).2 i).1,λa b c=>hS _ (((h.fl f hf).2 i).2 a b c)⟩⟩,h.rd,h.aD⟩
theorem ga.aP {C:fq}{T N R:Int}{S:List Int}{x:RX}(h:ga C T N S R x):ga C T N S R x.r.aF:=⟨h.aA,h.aC,h.es,h.fl,h.rd,λm hm=>by cases hm⟩
structure kD (C:fq)(T N:Int)(S:List Int)(R:Int)(x:gw):Prop where
 aA:∀k (h:k<x.l.length),ga C T N S R x.l[k].aF
 aD:∀m∈x.aA,oz R m
 aE:x.l.length=5
 aC:∀k (h:k<x.l.length),x.l[k].id=k+1
 R0:0<=R
section
variable {C:fq} {T N R:Int} {S S':List Int} {x x':gw} {k:Nat} {y:RX}
theorem kD.aG (h:kD C T N S R x)(hk:k<x.l.length)(hS:∀n∈S,n∈S')(hy:ga C T N S' R y)(u:y.r.id=k+1):kD C T N S' R (x.aD k y):=by
 have gs:∀j (hj:j<(x.l.set k y.r).length) (e:j<x.l.length),(x.l.set k y.r)[j]=if k=j then y.r else x.l[j]:=λj hj e=>List.getElem_set hj
 refine⟨λj hj=>?_,λm hm=>?_,by show (x.l.set k y.r).length=5;rw[UA];exact h.aE,λj hj=>?_,h.R0⟩
 ·have e:j<x.l.length:=by simpa [gw.aD] using hj
  show ga _ _ _ _ _ ((x.l.set k y.r)[j]'hj).aF;rw[gs j hj e];split;·exact hy.aP
  ·exact (h.aA j e).up hS
 ·rcases U4.1 hm with z | z;·exact h.aD m z
  ·exact hy.aD m z
 ·have e:j<x.l.length:=by simpa [gw.aD] using hj
  show ((x.l.set k y.r)[j]'hj).id=_;rw[gs j hj e];split;·rename_i c;rw[<-c];exact u
  ·exact h.aC j e
theorem kD.aF (h:kD C T N S R x)(hS:∀n∈S,n∈S'){p:List fE}(hp:∀a∈p,a∈x.aA):kD C T N S' R {x with aA:=p}:=
 ⟨λk hk=>(h.aA k hk).up hS,λm hm=>h.aD m (hp m hm),h.aE,h.aC,h.R0⟩
theorem kD.up (h:kD C T N S R x)(hS:∀n∈S,n∈S'):kD C T N S' R x:=⟨λk hk=>(h.aA k hk).up hS,h.aD,h.aE,h.aC,h.R0⟩
theorem kD.aH (h:kD C T N S R x){c0:fq}{B K B' K':Nat}(ok:ic c0 B K x)(u:ic c0 B' K' x')(hN:0<N){q:Int}{i:Nat}{d:Int}(hq:q<=7)(mv:x.aM q k i d x')(hk:k<x.l.length)(hS:∀n∈S,n∈S')
  (hn:2<=q->q<=4->∀hi:i<x.aA.length,x.aA[i].aD=4->x.aA[i].to=1->x.aA[i].ok=true->x.aA[i].aF=T->N<=x.aA[i].aK->x.aA[i].aC∈S'):kD C T N S' R x':=by
 have e:=gw.aL hk;have I:∀y:RX,x'=x.aD k y->y.r.id=k+1:=λy e=>by
  have l5:k<x'.l.length:=by rw[e];show k<(x.l.set k y.r).length;simpa using hk
  have:=(u.aE k l5).1;subst e;have g:(x.aD k y).l[k]'l5=y.r:=VC ..;rw[g]at this;exact this
 by_cases c1:q<=1
 ·have mt:=mv.aE c1;rw[e]at mt;have hi:=I _ mt;rw[mt];exact h.aG hk hS (((h.aA k hk).aY hN h.R0 d).up hS) hi
 by_cases c2:q<=4
 ·have mc:=mv.aA ⟨by omega,c2⟩;split at mc
  ·rename_i hi;have hm:=h.aD _ (UT hi);have less:∀a∈x.aA.take i++x.aA.drop (i+1),a∈x.aA:=λa ha=>(U4.1 ha).elim U9 UX;unfold gw.aF at mc;split at mc
   ·rename_i ht;obtain⟨t1,t2,t3⟩:=ht;have hs:ga C T N S' R (x.l[(x.aA[i].to-1).toNat].a_ x.aA[i]):=(h.aA _ t3).aX hN h.R0 hS hm (λz=>by have:=h.aC _ t3;omega) (hn (by omega) c2 hi);have l5:(x.aA[i].to-1).toNat<x'.l.length:=by rw[mc];show _<(x.l.set _ _).length;simpa using t3
    have E:=(u.aE _ l5).1;have g:x'.l[(x.aA[i].to-1).toNat]'l5=(x.l[(x.aA[i].to-1).toNat].a_ x.aA[i]).r:=by subst mc;exact VC ..
    rw[g]at E;rw[mc];exact (h.aF (λn hn=>hn) less).aG t3 hS hs E
   ·rw[mc];exact h.aF hS less
  ·rw[mc];exact h.up hS
 by_cases c3:q=5
 ·rw[mv.aC c3];exact h.aF hS λa ha=>(U4.1 ha).elim U9 UX
 by_cases c4:q=6
 ·have mt:=mv.aF c4;split at mt;·rename_i c;rw[mt];exact h.aF hS λa ha=>(U4.1 ha).elim (λz=>z) λz=>by rw[Wc.1 z];exact UT c.1
  ·rw[mt];exact h.up hS
 ·have c5:q=7:=by omega
  have mp:=mv.aD c5;rw[e]at mp;split at mp;·have hi:=I _ mp;rw[mp];exact h.aG hk hS (((h.aA k hk).aU (by decide)).up hS) hi
  ·rw[mp];exact h.up hS
theorem kD.aI (h:kD C T N S R x)(h0:0<x.l.length)(he:(x.l[0].aR).2.2=0)(hid:(x.l[0].aR).2.1.r.id=1):kD C x.l[0].aA.aC (R+1) [] (R+1) (x.aD 0 (x.l[0].aR).2.1)/\(x.l[0].aR).1=R+1:=by
 have i0:=h.aC 0 h0;obtain⟨hr,e1⟩:=(h.aA 0 h0).aV (by simpa using i0) he;have gs:∀j (hj:j<(x.l.set 0 (x.l[0].aR).2.1.r).length) (hj':j<x.l.length),(x.l.set 0 (x.l[0].aR).2.1.r)[j]=if 0=j then (x.l[0].aR).2.1.r else x.l[j]:=λj hj hj'=>List.getElem_set hj
 have R0:=h.R0;refine⟨⟨λj hj=>?_,λm hm=>?_,by show (x.l.set 0 _).length=5;rw[UA];exact h.aE,λj hj=>?_,by omega⟩,e1⟩
 ·have hj':j<x.l.length:=by simpa [gw.aD] using hj
  show ga _ _ _ _ _ ((x.l.set 0 _)[j]'hj).aF;rw[gs j hj hj'];split;·exact hr.aP
  ·rename_i c;exact (h.aA j hj').aT (by rw[h.aC j hj'];omega) _ _ _ _
 ·rcases U4.1 hm with z | z;·exact (h.aD m z).aE (by omega)
  ·exact hr.aD m z
 ·have hj':j<x.l.length:=by simpa [gw.aD] using hj
  show ((x.l.set 0 _)[j]'hj).id=_;rw[gs j hj hj'];split;·rename_i c;rw[<-c];exact hid
  ·exact h.aC j hj'
theorem kD.aJ (h:kD C T N S R x)(h0:0<x.l.length) (hs:x.l[0].bB N=true):x.l[0].aG=2/\(x.l[0].aA.aC=T->C.aF (S++[1])=true):=by
 have i0:x.l[0].id=1:=by simpa using h.aC 0 h0
 have m0:=h.aA 0 h0;unfold eZ.bB at hs;split at hs;·cases hs
 ·rename_i c;have r2:x.l[0].aG=2:=UC λz=>c (.inl z);refine⟨r2,λht=>?_⟩;have e:x.l[0].aN=C:=m0.aN;rw[e,i0]at hs;refine Ui (λn hn=>?_) hs;rcases Vg.1 hn with z | z;·rw[z];simp
  ·obtain⟨f,hf,rfl⟩:=Vz.1 z;obtain⟨E,u⟩:=Wi.1 hf;exact Wt _ (((m0.fl f E).2 i0).2 r2 ht (by simpa using u))
theorem JY:kD (jh 3) T 1 [] 0 (gw.aI 3):=by
 refine⟨λk h=>?_,λm hm=>(by cases hm),by simp[gw.aI],λk h=>?_,UL _⟩;·obtain⟨e,h5⟩:=uH h;rw[e];exact⟨rfl,rfl,λe he=>(by cases he),λf hf=>(by cases hf),λ_=>rfl,λm hm=>(by cases hm)⟩
 ·obtain⟨e,h5⟩:=uH h;rw[e];rfl
end
def AC.aC:AC->AC
 | .aG _ a=>a
 | x=>x
structure kC (h0:eW)(nb b:Nat)(Λ:Nat->Nat)(h:eW)(w:fX)(x:gw)(S Q:List Int)(T N R round:Int)(hv:AV):Prop where
 a:fW Λ h nb w (iF x)
 ok:ic (jh 3) (2*b) (200*b) x
 bb:jL b x
 hb:b<=450
 aC:gE (λm=>Λ m=110) h 1 hv (hP S)
 aD:S.length<=b
 rn:kD (jh 3) T N Q R x
 aA:0<N
 rd:round=N\/(round=0/\N=1/\R=0)
 z:∀m,m<h0.length->Λ m=0
 X:eV eY h0 h
section
variable {h0 h h':eW} {nb b:Nat} {Λ:Nat->Nat} {w:fX} {x:gw} {S Q:List Int} {T N R round:Int} {hv:AV}
theorem kC.up (s:kC h0 nb b Λ h w x S Q T N R round hv)(X:eV eY h h'):kC h0 nb b Λ h' w x S Q T N R round hv:=
 ⟨s.a.up X,s.ok,s.bb,s.hb,s.aC.aA (λ_ y _=>y) (λm _ hlt=>X.2 m hlt (λy=>y)),s.aD,s.rn,s.aA,s.rd,s.z,s.X.tr X⟩
theorem kC.aE (s:kC h0 nb b Λ h w x S Q T N R round hv)(hl:S.length<b)(X:eV eY h h')(n:Int):∃v' h3,ij h' 1 8 hv [[.aA .i64 n]]=some (v',h3)/\(∀m,m<h'.length->Λ m≠110->h3[m]?=h'[m]?)/\∃Λ',(∀m,m<h'.length->Λ' m=Λ m)/\kC h0 nb b Λ' h3 w x (S++[n]) Q T N R round v':=by
 have c':gE (λm=>Λ m=110) h' 1 hv (hP S):=s.aC.aA (λ_ y _=>y) (λm _ hlt=>X.2 m hlt (λy=>y));have hb:=s.hb;have hlen:=s.aD;obtain⟨v',h3,g1,c3,X3⟩:=c'.aC (bytes:=8) (ys:=[[.aA .i64 n]]) (eV.aC _ _) (by simp only[hP,UI,UG,UJ];omega);have a1:=s.a.up X;have old:∀m,m<h'.length->kL Λ h'.length h3.length 110 m=Λ m:=λm hm=>Uv hm;have new:∀m,h'.length<=m->kL Λ h'.length h3.length 110 m=0\/(kL Λ h'.length h3.length 110 m=110/\m<h3.length):=λm hm=>by
  unfold kL;rw[Uw (by omega)];split;·rename_i c;exact .inr ⟨rfl,c⟩
  ·exact .inl rfl
 have E:=X3.1;have a3:fW (kL Λ h'.length h3.length 110) h3 nb w (iF x):=a1.aY E old (λm hm=>by
   by_cases c:m<h'.length
   ·omega
   ·rcases new m (by omega) with z | z;·exact absurd z hm
    ·exact z.2) (λm hm hlt=>X3.2 m hm (by show ¬Λ m=110;omega)) (λm hm=>(new m hm).imp (λz=>z) λz=>by omega)
 refine⟨v',h3,g1,λm hm hn=>X3.2 m hm hn,kL Λ h'.length h3.length 110,old,a3,s.ok,s.bb,s.hb,?_,by simp;omega,s.rn,s.aA,s.rd,λm hm=>?_,?_⟩
 ·have e:hP (S++[n])=hP S++[[.aA .i64 n]]:=by simp[hP]
  rw[e];refine c3.aA (λm hm hlt=>?_) (λ_ _ _=>rfl);have u:(Λ m=110/\m<h'.length)\/h'.length<=m:=hm;rcases u with⟨y,y2⟩ | y;·exact (old m y2).trans y
  ·show kL _ _ _ _ m=110;unfold kL;rw[Uw (by omega),Uv hlt]
 ·have:=s.X.1;have:=X.1;exact (old m (by omega)).trans (s.z m hm)
 ·have x1:=s.X.1;have x2:=X.1;exact⟨by omega,λm hm _=>(X3.2 m (by omega) (by show ¬Λ m=110;rw[s.z m hm];omega)).trans ((X.2 m (by omega) (λy=>y)).trans (s.X.2 m hm (λy=>y)))⟩
theorem kC.on (s : kC h0 nb b Λ h w x S Q T N R round hv) {Λ' : Nat -> Nat} {w' : fX} {x' : gw} {b' : Nat} {S' Q' : List Int} {T' N' R' round' : Int} (sm : gA Λ h Λ' h') (a : fW Λ' h' nb w' (iF x')) (ok : ic (jh 3) (2 * b') (200 * b') x') (bb : jL b' x') (hb : b' <= 450) (hbb : b <= b') (rn : kD (jh 3) T' N' Q' R' x') (pos : 0 < N') (rd : round' = N' \/ (round' = 0 /\ N' = 1 /\ R' = 0)) (v' : AV) (hS : (S' = S /\ v' = hv) \/ (S' = [] /\ v' = .aD)) : kC h0 nb b' Λ' h' w' x' S' Q' T' N' R' round' v' := by
 have x1 := s.X.1;have sl := sm.aD;refine ⟨a, ok, bb, hb, ?_, ?_, rn, pos, rd, λm hm => (sm.aC m (by omega)).trans (s.z m hm), ⟨by omega, λm hm _ => (sm.z m (by omega) (s.z m hm)).trans (s.X.2 m hm (λy => y))⟩⟩
 ·rcases hS with ⟨e1, e2⟩ | ⟨e1, e2⟩;·rw [e1, e2];exact s.aC.aA (λm hm hlt => (sm.aC m hlt).trans hm) (λm hm hlt => sm.aF m hlt (by have hm' : Λ m = 110 := hm; omega))
  ·rw [e1, e2]; exact .inl ⟨rfl, rfl⟩
 ·rcases hS with ⟨e1, -⟩ | ⟨e1, -⟩;·rw [e1]; have := s.aD; omega
  ·rw [e1]; exact UK _
end
theorem Qq {P:Program}{f1 f2 f3 f4 f5 f6 f7 f8 f9 f10 f11:FuncId}(u6:qV P f6)(u7:uv P f7)(u8:ou P f8 eZ.aG)(u9:mQ P f9 .i64)(O:pt P f10){h0 H:eW}{nb b r:Nat}{Λ:Nat->Nat}{w:fX}{x:gw}{S:List Int}{T N R round:Int}{hv:AV}{Le:fV}{K:AX->St->Prop}(s:kC h0 nb b Λ H w x S S T N R round hv) (hr:w.rs[0]?=some r) (I:lk 11 Le=.aC r 21 0 0) (l4:lk 4 Le=.aA .i64 round) (l5:lk 5 Le=.aA .i64 T) (l6:lk 6 Le=hv)
  (hK:∀Lv H',(∀n,n≠153->lk n Lv=lk n Le)->kC h0 nb b Λ H' w x S S T N R round hv->K .aA ⟨Lv,[],H'⟩):vc P (iP f1 f2 f3 f4 f5 f6 f7 f8 f9 f10 f11).tl.hd.aC.tl.tl.tl.tl.tl.tl.tl.tl.tl.tl ⟨Le,[],H⟩ K:=by
 have l5':=s.ok.aD;have h5:0<x.l.length:=by omega
 obtain⟨Z,er⟩:=Up.1 hr;have m0:iN (gR 0 Λ) H r x.l[0]:=by rw[<-er];exact s.a.aF 0 Z h5
 have rR:np H r x.l[0]:=let⟨g,ff,ra⟩:=m0.r;⟨g,ff,ra.aA⟩
 have f:=s.ok.aC 0 h5;have hb:=s.hb;have fl:=f.aL;have fb:=f.aD;have fs:=f.aU.2;have sc:=s.aC.aE;have fin:∀Lv:fV,(∀n,n≠153->lk n Lv=lk n Le)->K .aA ⟨Lv,[],H⟩:=λLv e=>hK Lv H e s;simp only[iP,AC.aD,AC.aF,AC.aC,go_sem,I,l4];refine gh u7.1 (u7.2 (gR 0 Λ) H r x.l[0] (200*b) round m0 f (by omega)) ?_;cases u:x.l[0].bB round;·simp only[go_sem];exact fin _ λn hn=>by rw[fj,Uw (λe=>hn e)]
 ·have hN:round=N:=by
   rcases s.rd with e | ⟨e,-⟩;·exact e
   ·exfalso;unfold eZ.bB at u;rw[Uv (.inr (.inl (by omega)))]at u;cases u
  rw[hN]at u;obtain⟨r2,hw⟩:=s.rn.aJ h5 u;have cf:x.l[0].aA.aD.aH (2^40):=(mI f.aH).le (by omega);have hd:fC P f6 [.aC r 21 0 0] H λv h'=>v=.aF x.l[0].aA.v/\h'=H:=(u6.2 H r x.l[0] rR (f.aC (by omega)) cf (by omega) ⟨by omega,fb.1,by omega⟩).aC λ_ _ ⟨b,e,o,X⟩=>⟨X,_,e▸gY.aA (ds:=x.l[0].aA.c) (fI.fz _ (λ_ x=>x) _ o),rfl⟩;simp only[go_sem,I];refine gh u8.1 (u8.2 H r _ rR) ?_;simp only[go_sem,I,Uu r2,U2];refine gh u6.1 hd ?_;simp only[go_sem,l5,fF.aL];by_cases ct:x.l[0].aA.aC=T
  ·simp only[go_sem,Uu ct,l6];obtain⟨H1,E⟩:∃H1,H1=H++[some (e_.aA 1 [[AV.aA .i64 1],[AV.aA .i64 2],[AV.aA .i64 3]] false)]:=⟨_,rfl⟩;have X1:eV eY H H1:=by rw[E];exact eV.b1 _
   have C1:H1[H.length]?=some (some (e_.aA 1 [[AV.aA .i64 1],[AV.aA .i64 2],[AV.aA .i64 3]] false)):=by rw[E];exact gH _ _
   have l1:H1.length=H.length+1:=by rw[E];simp
   rw[<-E];clear E;have hS:=s.aD;have rS:Rd (λm=>Λ m=110) H1 (fM S) hv:=(s.aC.aG).up X1;refine fA ⟨u9.1,u9.2 _ H1 S hv rS (by omega)⟩ ?_;rintro v H2 ⟨o2,ca,X2⟩;have sv:=o2.aA;simp only[go_sem];obtain⟨H3,M⟩:∃H3,H3=H2++[some (e_.aA 1 [[AV.aA .i64 1]] false)]:=⟨_,rfl⟩;have X3:eV eY H2 H3:=by rw[M];exact eV.b1 _
   have ae:iK H3 1 (.aG H2.length 1 0 1 (some 1))=some [[.aA .i64 1]]:=qc (g:=false) (by rw[M];exact gH _ _) (some 1) (len:=1) rfl;obtain⟨v4,H4,g1,o4,c4,X4⟩:=vj (bytes:=8) (es:=[[D.aA .i64 1]]) (ys:=[[.aA .i64 1]]) o2 ca X3 (by simp only[fG,fI,eX];exact⟨_,_,rfl,⟨_,_,rfl,rfl,rfl⟩,rfl⟩) (λm hm=>UH X2.1 hm) (by simp only[UI,Vn];omega);rw[<-iq ae]at g1;have U:eV eY H1 H4:=(X2.tr X3).aJ X4 (λm hm a1=>by have:H1.length<=m:=a1;omega);have rc:fm (λm=>m=H.length) H4 (jh 3).c [.aG H.length 1 0 3 (some 3),.aD,.aD]:=by simp only[fq.c,jh,fm];refine⟨_,_,rfl,?_,_,_,rfl,rT _ _ _,_,_,rfl,rT _ _ _,rfl⟩;simp only[fM,Rd];exact⟨_,.inr (.inr ⟨H.length,0,3,some 3,_,false,rfl,rfl,U.aA C1,by simp,(λc hc=>by cases hc;simp),rfl⟩),by simp[List.range,List.range.loop,fY,fm,Rd]⟩
   have ra:=eX.rd _ (F':=λm=>H1.length<=m) (λ_ y=>y) _ o4;have W:Rd (λm=>H1.length<=m) H4 (fM (S++[1])) v4:=by simpa [fM] using ra
   have s4:kC h0 nb b Λ H4 w x S S T N R round hv:=s.up (X1.tr U);rw[<-M];simp only[go_sem,g1];refine gh O.1 (O.2 _ _ H4 (jh 3) (S++[1]) _ _ rc W ⟨by simp[jh],by simp[jh],by simp[jh]⟩ (by simp;omega)) ?_;rw[hw ct];simp only[go_sem,U2];exact hK _ _ (λn hn=>by rw[fj,Uw (λe=>hn e)]) s4
  ·simp only[go_sem,Us ct];exact fin _ λn hn=>by rw[fj,Uw (λe=>hn e)]
theorem Qg {r:eZ}(h:¬(r.aR).2.2=0):(r.aR).2.1.r=r:=by
 unfold eZ.aR at h ⊢;split;·rfl
 ·split;·rfl
  ·rename_i c1 c2;rw[Uw c1,Uw c2]at h;exact absurd rfl h
theorem Qh {r:eZ}(h:(r.aR).2.2=0):r.aG=2/\(r.aR).2.1.r={r with aL:=r.aL+1}:=by
 unfold eZ.aR at h ⊢;split at h;·cases h
 ·split at h;·cases h
  ·rename_i c1 c2;rw[Uw c1,Uw c2];exact⟨UC c1,(pG _ _).1⟩
theorem Qp {P : Program} {f1 f2 f3 f4 f5 f6 f7 f8 f9 f10 f11 : FuncId} (u4 : uu P f4) (u5 : lQ P f5) (u6 : qV P f6) {h0 H : eW} {nb b r i : Nat} {Λ : Nat -> Nat} {w : fX} {x : gw} {S : List Int} {T N R round : Int} {hv : AV} {Le : fV} {K : AX -> St -> Prop} (s : kC h0 nb b Λ H w x S S T N R round hv) (a5 : b + 1 <= 450) (hr : w.rs[0]? = some r) (l3 : lk 3 Le = .aC nb 9 0 0) (l7 : lk 7 Le = .aA .i64 (i : Int)) (U : lk 11 Le = .aC r 21 0 0) (l4 : lk 4 Le = .aA .i64 round) (l5 : lk 5 Le = .aA .i64 T) (l6 : lk 6 Le = hv)
  (hK : ∀ Lv H' b' Λ' w' x' S' T' N' R' round' W, (∀ n, n = 0 \/ n = 3 \/ n = 7 \/ n = 11 -> lk n Lv = lk n Le) -> lk 4 Lv = .aA .i64 round' -> lk 5 Lv = .aA .i64 T' -> lk 6 Lv = W -> w'.rs[0]? = some r -> b' <= b + 1 -> kC h0 nb b' Λ' H' w' x' S' S' T' N' R' round' W -> K .aA ⟨Lv, [], H'⟩) : vc P (iP f1 f2 f3 f4 f5 f6 f7 f8 f9 f10 f11).tl.hd.aC.tl.tl.tl.tl.tl.tl.tl.tl.tl.hd ⟨Le, [], H⟩ K := by
 have l5' := s.ok.aD;have h5 : 0 < x.l.length := by omega
 obtain ⟨I, er⟩ := Up.1 hr;have m0 : iN (gR 0 Λ) H r x.l[0] := by rw [<- er]; exact s.a.aF 0 I h5
 have f := s.ok.aC 0 h5;have hb := s.hb;have r5 : ∀ x : Int, jx .rem (.aA .i64 x) (.aA .i64 5) = some (.aA .i64 (x.tmod 5)) := λ_ => rfl;simp only [iP, AC.aD, AC.aF, AC.aC, go_sem, l7, r5];by_cases c5 : (i : Int).tmod 5 = 0
 ·simp only [go_sem, Uu c5, U];refine fA ⟨u4.1, u4.2 (gR 0 Λ) H r x.l[0] (200 * b) m0 f (by omega)⟩ ?_;rintro _ H1 ⟨res, rfl, ro⟩;rw [<- er] at ro;obtain ⟨Λ1, ma, ca, aa, rfl, s1, a1, r1, r2, r3⟩ := s.a.aV I h5 ro;have sm := r1.aA;have sc := r2.aA;have sa := r3.aA;obtain ⟨y, hy⟩ : ∃ y, y = x.l[0].aR := ⟨_, rfl⟩;rw [<- hy] at a1 r1 r2 r3;obtain ⟨H2, u⟩ : ∃ H2, H2 = H1 ++ [some (e_.aA 5 [[ma, ca, aa, .aA .i64 y.2.1.o.aE, .aE y.2.1.o.aC]] false)] := ⟨_, rfl⟩;have X2 : eV eY H1 H2 := by rw [u]; exact eV.b1 _
  have C2 : H2[H1.length]? = some (some (e_.aA 5 [[ma, ca, aa, .aA .i64 y.2.1.o.aE, .aE y.2.1.o.aC]] false)) := by rw [u]; exact gH _ _
  simp only [go_sem, <- hy, sm, sc, sa];rw [<- u];clear u;have a2 := a1.up X2;have s2 : gA Λ1 H1 Λ1 H2 := gA.up X2;by_cases ce : y.2.2 = 0
  ·rw [hy] at ce;obtain ⟨a4, E⟩ := Qh ce;have i0 : x.l[0].id = 1 := by simpa using s.rn.aC 0 h5
   have e0 : x.l[0].aN = jh 3 := (s.rn.aA 0 h5).aN;have Z : x.l[0].aZ x.l[0].id = true := by unfold eZ.aZ; rw [e0, i0]; decide
   obtain ⟨o1, o2⟩ := s.ok.aN h5 a4 Z ce;obtain ⟨n1, n2⟩ := s.rn.aI h5 ce (by rw [E]; exact i0);have te : (x.l[0].aR).2.1.aE 2 := (RX.aE.aL _).aA (by omega);have O : (x.l[0].aR).2.1.aD 21 := RX.aD.aL _ f.aE.1;rw [<- hy] at o1 o2 n1 n2 te O ce E;simp only [go_sem, Uu ce, l3, C2];refine u5.aA a2 (s2.rd r1) (s2.rd r2) (s2.rd r3) s.ok o1 h5 o2 (by omega) s.bb (by omega) te O (λv8 Λ8 h8 w8 s8 M a8 b8 => ?_);have l8 : 0 < (x.aD 0 y.2.1).l.length := by show 0 < (x.l.set 0 _).length; simpa using h5
   have g8 : (x.aD 0 y.2.1).l[0]'l8 = y.2.1.r := VC ..;obtain ⟨a3, a7⟩ : ∃ hh : 0 < w8.rs.length, w8.rs[0]'hh = r := by rw [M]; exact ⟨I, er⟩
   have m8 := a8.aF 0 a3 l8;have a6 : (iF (x.aD 0 y.2.1)).l[0]'l8 = y.2.1.r := g8;rw [a7, a6, E] at m8;have rR : np h8 r { x.l[0] with aL := x.l[0].aL + 1 } := let ⟨g, ff, ra⟩ := m8.r; ⟨g, ff, ra.aA⟩
   have fl := f.aL;have fb := f.aD;have fs := f.aU.2;have cf : x.l[0].aA.aD.aH (2^40) := (mI f.aH).le (by omega);have hd : fC P f6 [.aC r 21 0 0] h8 λv h' => v = .aF x.l[0].aA.v /\ h' = h8 := (u6.2 h8 r { x.l[0] with aL := x.l[0].aL + 1 } rR (f.aC (by omega)) cf (by show x.l[0].aA.aG.length <= _; omega) ⟨by show x.l[0].aA.aA.es.length <= _; omega, fb.1, by show x.l[0].aA.aA.aA <= _; omega⟩).aC λ_ _ ⟨b, e, o, X⟩ => ⟨X, _, e ▸ gY.aA (ds := x.l[0].aA.c) (fI.fz _ (λ_ x => x) _ o), rfl⟩;simp only [go_sem, U];refine gh u6.1 hd ?_;simp only [go_sem, fF.aL];have st := s.on (b' := b + 1) ((s1.aA s2).aA s8) a8 (o1.aA (by omega) (by omega)) b8 a5 (by omega) n1 (by have := s.rn.R0; omega) (round' := R + 1) (.inl rfl) .aD (.inr ⟨rfl, rfl⟩);exact hK _ _ (b + 1) Λ8 w8 _ [] _ _ _ (R + 1) .aD (λn hn => by rcases hn with rfl | rfl | rfl | rfl <;> simp [fj]) (by simp [fj, n2]) (by simp [fj]) (by simp [fj]) (by rw [M]; exact hr) (by omega) st
  ·rw [hy] at ce;have e := Gw h5 (Qg ce);rw [<- hy] at e ce;simp only [go_sem, Us ce];have a9 : fW Λ1 H2 nb w (iF x) := by rw [<- e]; exact a2
   have st := s.on (b' := b) (s1.aA s2) a9 s.ok s.bb hb (by omega) s.rn s.aA s.rd hv (.inl ⟨rfl, rfl⟩);exact hK _ _ b Λ1 w x S T N R round hv (λn hn => by rcases hn with rfl | rfl | rfl | rfl <;> simp [fj]) (by simp [fj, l4]) (by simp [fj, l5]) (by simp [fj, l6]) hr (by omega) st
 ·simp only [go_sem, Us c5];exact hK _ _ b Λ w x S T N R round hv (λn hn => by rcases hn with rfl | rfl | rfl | rfl <;> simp [fj]) (by simp [fj, l4]) (by simp [fj, l5]) (by simp [fj, l6]) hr (by omega) s
theorem Qn {P:Program}{f1 f2 f3 f4 f5 f6 f7 f8 f9 f10 f11:FuncId}{h0 H:eW}{nb b n:Nat}{Λ:Nat->Nat}{w:fX}{x:gw}{S Q:List Int}{T N R round:Int}{hv e d:AV}{m:fE}{Le:fV}{K:AX->St->Prop}(s:kC h0 nb b Λ H w x S Q T N R round hv)(hl:S.length<b)(u:lk 10 Le=.aC n 17 0 0) (hn:H[n]?=some (some (.aA 17 [m.aE e d] false))) (l4:lk 4 Le=.aA .i64 round) (l5:lk 5 Le=.aA .i64 T) (l6:lk 6 Le=hv) (hQ:Q=if m.aD=4/\m.to=1/\m.ok=true/\m.aF=T/\0<round/\round<=m.aK then S++[m.aC] else S)
  (hK:∀Lv H' Λ' E,(∀n,n=0\/n=3\/n=4\/n=5\/n=7->lk n Lv=lk n Le)->lk 6 Lv=E->kC h0 nb b Λ' H' w x Q Q T N R round E->K .aA ⟨Lv,[],H'⟩):vc P (iP f1 f2 f3 f4 f5 f6 f7 f8 f9 f10 f11).tl.hd.aC.tl.tl.tl.tl.tl.tl.hd ⟨Le,[],H⟩ K:=by
 have no:(¬(m.aD=4/\m.to=1/\m.ok=true/\m.aF=T/\0<round/\round<=m.aK))->∀Lv:fV,(∀n,n≠95->lk n Lv=lk n Le)->K .aA ⟨Lv,[],H⟩:=λz Lv ks=>by rw[Uw z]at hQ;subst hQ;exact hK Lv H Λ hv (λn hn=>ks n (by omega)) ((ks 6 (by decide)).trans l6) s
 have fin:∀c:Bool,∀n,n≠95->lk n (kW 95 (AV.aE c) Le)=lk n Le:=λc n hn=>by rw[fj,Uw (λe=>hn e)]
 have hnl:=(Up.1 hn).1;simp only[fE.aE]at hn;simp only[iP,AC.aD,AC.aF,AC.aC,go_sem,u,hn];by_cases c1:m.aD=4
 ·by_cases c2:m.to=1
  ·by_cases c3:m.ok=true
   ·by_cases c4:m.aF=T
    ·by_cases c5:0<round
     ·by_cases c6:round<=m.aK
      ·rw[Uv ⟨c1,c2,c3,c4,c5,c6⟩]at hQ;subst hQ;obtain⟨v',h3,g1,-,Λ',-,s'⟩:=s.aE hl (eV.b1 (some (e_.aA 1 [[.aA .i64 m.aC]] false))) m.aC;have ae:iK (H++[some (e_.aA 1 [[AV.aA .i64 m.aC]] false)]) 1 (.aG H.length 1 0 1 (some 1))=some [[.aA .i64 m.aC]]:=qc (g:=false) (gH _ _) (some 1) (len:=1) rfl;rw[<-iq ae]at g1;simp only[go_sem,u,hn,l4,l5,l6,Uu c1,Uu c2,c3,Uu c4,Uu c5,Uu c6,g1];exact hK _ _ Λ' v' (λn hn=>by rcases hn with rfl | rfl | rfl | rfl | rfl<;>simp[fj]) (by simp[fj]) s'
      ·simp only[go_sem,u,hn,l4,l5,Uu c1,Uu c2,c3,Uu c4,Uu c5,Us c6];exact no (λz=>c6 z.2.2.2.2.2) _ (fin _)
     ·simp only[go_sem,u,hn,l4,l5,Uu c1,Uu c2,c3,Uu c4,Us c5];exact no (λz=>c5 z.2.2.2.2.1) _ (fin _)
    ·simp only[go_sem,u,hn,l5,Uu c1,Uu c2,c3,Us c4];exact no (λz=>c4 z.2.2.2.1) _ (fin _)
   ·simp only[go_sem,u,hn,Uu c1,Uu c2,Bool.eq_false_iff.2 c3];exact no (λz=>c3 z.2.2.1) _ (fin _)
  ·simp only[go_sem,u,hn,Uu c1,Us c2];exact no (λz=>c2 z.2.1) _ (fin _)
 ·simp only[go_sem,Us c1];exact no (λz=>c1 z.1) _ (fin _)
section
variable {P:Program} {f1 f2 f3 f4 f5 f6 f7 f8 f9 f10 f11:FuncId} {h0 H:eW} {nb b i n8 n10:Nat} {Λ:Nat->Nat} {w:fX} {x:gw} {S:List Int} {T N R round:Int} {hv:AV} {Le:fV} {K:AX->St->Prop}
theorem Qm (u2:sE P f2){la:AV}{l:List nP}(al:∀H,Rd eY H (qt l) la)(hi:i<l.length)(pl:(x.aA.length:Int)<=2^40)(a:fW Λ H nb w (iF x))(l0:lk 0 Le=la)(l3:lk 3 Le=.aC nb 9 0 0)(l7:lk 7 Le=.aA .i64 (i:Int))
  (tl:∀Lv H' n8 n10,eV eY H H'->H.length<=n8->H.length<=n10->n8≠n10->(∀n,n≠8->n≠9->n≠10->lk n Lv=lk n Le)->lk 8 Lv=.aC n8 3 0 0->lk 9 Lv=.aA .i64 (jk l[i].a x.aA.length)->lk 10 Lv=.aC n10 17 0 0->H'[n8]?=some (some (.aA 3 [[.aA .i64 (jk l[i].aA 8),.aA .i64 l[i].a,.aA .i64 l[i].b]] false))->H'[n10]?=some (some (.aA 17 [fE.aI.aE .aD .aD] false))->vc P (iP f1 f2 f3 f4 f5 f6 f7 f8 f9 f10 f11).tl.hd.aC.tl.tl.tl.tl ⟨Lv,[],H'⟩ K):
  vc P (iP f1 f2 f3 f4 f5 f6 f7 f8 f9 f10 f11).tl.hd.aC ⟨Le,[],H⟩ K:=by
 have e0:(iP f1 f2 f3 f4 f5 f6 f7 f8 f9 f10 f11).tl.hd.aC=.aA (iP f1 f2 f3 f4 f5 f6 f7 f8 f9 f10 f11).tl.hd.aC.hd (.aA (iP f1 f2 f3 f4 f5 f6 f7 f8 f9 f10 f11).tl.hd.aC.tl.hd (.aA (iP f1 f2 f3 f4 f5 f6 f7 f8 f9 f10 f11).tl.hd.aC.tl.tl.hd (.aA (iP f1 f2 f3 f4 f5 f6 f7 f8 f9 f10 f11).tl.hd.aC.tl.tl.tl.hd (iP f1 f2 f3 f4 f5 f6 f7 f8 f9 f10 f11).tl.hd.aC.tl.tl.tl.tl))):=rfl;rw[e0];clear e0;generalize (iP f1 f2 f3 f4 f5 f6 f7 f8 f9 f10 f11).tl.hd.aC.tl.tl.tl.tl=D at tl ⊢;have row:=a.aA;simp only[fX.aA]at row;have M:=a.aN;have M:ik w.pv=some (.aA .i64 x.aA.length):=M;obtain⟨p,cs,i1,i2,i3⟩:=Rd.aE (al H) .i64 (i:=(i:Int)) (d:=l[i].c) (by omega) (by rw[show ((i:Int)).toNat=i by omega,U_,Ur hi];rfl);obtain rfl:=P_ i3;have ld:ir H true 3 p=some (.aF [.aA .i64 l[i].aA,.aA .i64 l[i].a,.aA .i64 l[i].b]):=by rw[ju i2];rfl
 simp only[iP,AC.aD,AC.aF,AC.aC,go_sem,l0,l7,i1,ld];obtain⟨H1,E⟩:∃H1,H1=H++[some (e_.aA 3 [[.aA .i64 (jk l[i].aA 8),.aA .i64 l[i].a,.aA .i64 l[i].b]] false)]:=⟨_,rfl⟩;have X1:eV eY H H1:=by rw[E];exact eV.b1 _
 have C1:H1[H.length]?=some (some (e_.aA 3 [[.aA .i64 (jk l[i].aA 8),.aA .i64 l[i].a,.aA .i64 l[i].b]] false)):=by rw[E];exact gH _ _
 have l1:H1.length=H.length+1:=by rw[E];simp
 have I:=X1.aA row;refine nk.aA u2.1 (u2.2 _ 8 (by omega)) ?_;simp only[go_sem,l3];rw[<-E];clear E;simp only[go_sem,I,M];refine nk.aA u2.1 (u2.2 _ _ pl) ?_;simp only[go_sem];obtain⟨H2,O⟩:∃H2,H2=H1++[some (e_.aA 17 [fE.aI.aE .aD .aD] false)]:=⟨_,rfl⟩;have X2:eV eY H1 H2:=by rw[O];exact eV.b1 _
 have C2:H2[H1.length]?=some (some (e_.aA 17 [fE.aI.aE .aD .aD] false)):=by rw[O];exact gH _ _
 have u:=O;simp only[fE.aE,fE.aI]at u;rw[<-u];exact tl _ H2 H.length H1.length (X1.tr X2) (Uy _) (by omega) (by omega) (λn h8 h9 U=>by simp only[fj];rw[Uw (λe=>U e),Uw (λe=>h9 e),Uw (λe=>h8 e)]) (by simp[fj]) (by simp[fj]) (by simp[fj]) (X2.aA C1) C2
theorem Qk {Hb:eW}{pk qa qb:Int}{ia:Nat}(a:fW Λ Hb nb w (iF x))(X:eV eY Hb H)(W:Hb.length<=n10)(U:0<x.aA.length->ia<x.aA.length)(l3:lk 3 Le=.aC nb 9 0 0)(l8:lk 8 Le=.aC n8 3 0 0)(l9:lk 9 Le=.aA .i64 (ia:Int))(M:lk 10 Le=.aC n10 17 0 0) (h8:H[n8]?=some (some (.aA 3 [[.aA .i64 pk,.aA .i64 qa,.aA .i64 qb]] false))) (u:H[n10]?=some (some (.aA 17 [fE.aI.aE .aD .aD] false)))
  (hK:∀Lv H' (m:fE) e d,(∀n,n≠57->lk n Lv=lk n Le)->eV eY Hb H'->(∀n,n≠n10->H'[n]?=H[n]?)->H'[n10]?=some (some (.aA 17 [m.aE e d] false))->((m=fE.aI/\¬(0<x.aA.length/\2<=pk/\pk<=4))\/∃hi:ia<x.aA.length,2<=pk/\pk<=4/\m=x.aA[ia])->K .aA ⟨Lv,[],H'⟩):vc P (iP f1 f2 f3 f4 f5 f6 f7 f8 f9 f10 f11).tl.hd.aC.tl.tl.tl.tl.hd ⟨Le,[],H⟩ K:=by
 have a1:=a.up X;have row:=a1.aA;simp only[fX.aA]at row;have I:=a1.aN;have I:ik w.pv=some (.aA .i64 x.aA.length):=I;have no:¬(0<x.aA.length/\2<=pk/\pk<=4)->∀Lv:fV,(∀n,n≠57->lk n Lv=lk n Le)->K .aA ⟨Lv,[],H⟩:=λz Lv ks=>hK Lv H fE.aI .aD .aD ks X (λ_ _=>rfl) u (.inl ⟨rfl,z⟩);have fin:∀c:Bool,∀n,n≠57->lk n (kW 57 (AV.aE c) Le)=lk n Le:=λc n hn=>by rw[fj,Uw (λe=>hn e)]
 simp only[iP,AC.aD,AC.aF,AC.aC,go_sem,l3,row,I];by_cases c1:0<x.aA.length
 ·have E:(0:Int)<x.aA.length:=by omega
  by_cases c2:2<=pk
  ·by_cases c3:pk<=4
   ·have ip:=U c1;obtain⟨n0,j,prow,g,e,d,e1,e2,e3,he,hd,-⟩:=a1.aU (i:=ia) ip;have jl:=(Up.1 e3).1;have se:=he.aA;have sd:=hd.aA;have nl:=(Up.1 u).1;generalize hm:(iF x).aG[ia]'ip=m at *;have O:m=x.aA[ia]:=hm.symm;have s17:=u;simp only[fE.aE]at e3 u;simp only[go_sem,l3,l8,l9,M,h8,u,row,Uu E,Uu c2,Uu c3,e1,e2,e3,se,sd];have key:K .aA ⟨kW 57 (.aE true) Le,[],H.set n10 (some (e_.aA 17 [m.aE e d] false))⟩:=hK _ _ m e d (fin true) (X.aH W _) (λn hn=>Uq (λy=>hn y.symm)) (Ux nl) (.inr ⟨ip,c2,c3,O⟩);simp only[fE.aE]at key;exact key
   ·simp only[go_sem,l8,h8,Uu E,Uu c2,Us c3];exact no (λz=>c3 z.2.2) _ (fin _)
  ·simp only[go_sem,l8,h8,Uu E,Us c2];exact no (λz=>c2 z.2.1) _ (fin _)
 ·have E:¬(0:Int)<x.aA.length:=by omega
  simp only[go_sem,Us E];exact no (λz=>c1 z.1) _ (fin _)
theorem Qj (l3:lk 3 Le=.aC nb 9 0 0)(a:fW Λ H nb w (iF x)) (hK:K .aA ⟨kW 104 (.aE false) Le,[],H⟩):vc P (iP f1 f2 f3 f4 f5 f6 f7 f8 f9 f10 f11).tl.hd.aC.tl.tl.tl.tl.tl.tl.tl.hd ⟨Le,[],H⟩ K:=by have row:=a.aA;simp only[fX.aA]at row;simp only[iP,AC.aD,AC.aF,AC.aC,go_sem,l3,row];exact hK
theorem Ql {r:Nat}(l3:lk 3 Le=.aC nb 9 0 0)(a:fW Λ H nb w (iF x))(h5:0<x.l.length) (hr:w.rs[0]?=some r) (hK:K .aA ⟨kW 11 (.aC r 21 0 0) Le,[],H⟩):vc P (iP f1 f2 f3 f4 f5 f6 f7 f8 f9 f10 f11).tl.hd.aC.tl.tl.tl.tl.tl.tl.tl.tl.hd ⟨Le,[],H⟩ K:=by
 have row:=a.aA;simp only[fX.aA]at row;obtain⟨n1,j1,lrow,lg,r',v1,v2,v3,v4,v5,v6,v7,-,-⟩:=a.aI (k:=0) h5;have vl:=(Up.1 v3).1;have:r'=r:=by rw[v4]at hr;injection hr
 subst this;have v1:jg 1 w.lv (.aA .i64 (0:Int))=some (.aC n1 1 j1 0):=v1;simp only[iP,AC.aD,AC.aF,AC.aC,go_sem,l3,row,v1,v2,v3];exact hK
end
section
variable {P:Program} {f1 f2 f3 f4 f5 f6 f7 f8 f9 f10 f11:FuncId} {h0 H:eW} {nb b i n8 n10:Nat} {Λ:Nat->Nat} {w:fX} {x:gw} {S:List Int} {T N R round:Int} {hv:AV} {Le:fV} {K:AX->St->Prop}
theorem Qr (u3 : ug (λq => q <= 7) P f3) (u4 : uu P f4) (u5 : lQ P f5) (u6 : qV P f6) (u7 : uv P f7) (u8 : ou P f8 eZ.aG) (u9 : mQ P f9 .i64) (W : pt P f10) {pk qa qb : Int} {m : fE} {e d : AV} (hpk : 0 <= pk /\ pk < 8) (s : kC h0 nb b Λ H w x S S T N R round hv) (hb2 : b + 2 <= 450) (U : Λ n10 = 0) (l3 : lk 3 Le = .aC nb 9 0 0) (l4 : lk 4 Le = .aA .i64 round) (l5 : lk 5 Le = .aA .i64 T) (l6 : lk 6 Le = hv) (l7 : lk 7 Le = .aA .i64 (i : Int)) (l8 : lk 8 Le = .aC n8 3 0 0) (a1 : lk 10 Le = .aC n10 17 0 0) (h8 : H[n8]? = some (some (.aA 3 [[.aA .i64 pk, .aA .i64 qa, .aA .i64 qb]] false))) (O : H[n10]? = some (some (.aA 17 [m.aE e d] false)))
  (hm : (m = fE.aI /\ ¬ (0 < x.aA.length /\ 2 <= pk /\ pk <= 4)) \/ ∃ hi : (jk qa x.aA.length).toNat < x.aA.length, 2 <= pk /\ pk <= 4 /\ m = x.aA[(jk qa x.aA.length).toNat])
  (hK : ∀ Lv H' b' Λ' w' x' S' T' N' R' round' M, (∀ n, n = 0 \/ n = 3 \/ n = 7 -> lk n Lv = lk n Le) -> lk 4 Lv = .aA .i64 round' -> lk 5 Lv = .aA .i64 T' -> lk 6 Lv = M -> b' <= b + 2 -> kC h0 nb b' Λ' H' w' x' S' S' T' N' R' round' M -> K .aA ⟨Lv, [], H'⟩) : vc P (iP f1 f2 f3 f4 f5 f6 f7 f8 f9 f10 f11).tl.hd.aC.tl.tl.tl.tl.tl ⟨Le, [], H⟩ K := by
 have l5' := s.ok.aD;have ep : jk pk 12 = pk := by unfold jk; rw [Uw (by decide)]; omega
 have hlen := s.aD;simp only [iP, AC.aD, AC.aF, AC.aC, go_sem, l3, l8, h8];refine fA ⟨u3.1, u3.2 Λ H nb b w x (jh 3) (2 * b) (200 * b) pk qa qb (by rw [ep]; omega) s.a s.ok s.bb (by omega) (by omega) (by omega)⟩ ?_;rintro v8 H8 ⟨Λ8, w8, x8, s8, wr8, a8, E, b8, mv⟩;rw [ep] at mv;obtain ⟨Q, hQ⟩ : ∃ Q, Q = if m.aD = 4 /\ m.to = 1 /\ m.ok = true /\ m.aF = T /\ 0 < round /\ round <= m.aK then S ++ [m.aC] else S := ⟨_, rfl⟩
 have sub : ∀ n ∈ S, n ∈ Q := λn hn => by
  rw [hQ];split;·exact Wt _ hn
  ·exact hn
 have p5 := qC (k := qa) (n := 5) (by omega);have rn : kD (jh 3) T N Q R x8 := s.rn.aH s.ok E s.aA (by omega) mv (by omega) sub λq2 q4 hi k4 u I kt kr => by
  have em : m = x.aA[(jk qa x.aA.length).toNat] := by
   rcases hm with ⟨-, y⟩ | ⟨_, _, _, y⟩;·exact absurd ⟨by omega, q2, q4⟩ y
   ·exact y
  have hr : round = N := by
   rcases s.rd with y | ⟨-, y2, y3⟩;·exact y
   ·have := (s.rn.aD _ (UT hi)).aA k4 u;omega
  have hp := s.aA;rw [<- em] at k4 u I kt kr ⊢;rw [hQ, Uv ⟨k4, u, I, kt, by omega, by omega⟩];exact List.mem_append_right _ (Wc.2 rfl)
 have s' : kC h0 nb (b + 1) Λ8 H8 w8 x8 S Q T N R round hv := by have Z : ic (jh 3) (2 * (b + 1)) (200 * (b + 1)) x8 := E.aA (by omega) (by omega);obtain ⟨c1, c2, c3, c4, c5, c6, c7, c8⟩ := s.on (b' := b + 1) (S' := S) (Q' := Q) s8 a8 Z b8 (by omega) (by omega) rn s.aA s.rd hv (.inl ⟨rfl, rfl⟩);exact ⟨c1, c2, c3, c4, c5, c6, c7, c8, ‹_›, ‹_›, ‹_›⟩
 have hn := (s8.z n10 (Up.1 O).1 U).trans O;rw [FU, CV, BY, qz, tX];refine Qn (f1 := f1) (f2 := f2) (f3 := f3) (f4 := f4) (f5 := f5) (f6 := f6) (f7 := f7) (f8 := f8) (f9 := f9) (f10 := f10) (f11 := f11) s' (by omega) a1 hn l4 l5 l6 hQ (λLv H9 Λ9 hv9 ks k6 s9 => ?_);rw [qz, tX];have k3 := (ks 3 (by decide)).trans l3;refine Qj (f1 := f1) (f2 := f2) (f3 := f3) (f4 := f4) (f5 := f5) (f6 := f6) (f7 := f7) (f8 := f8) (f9 := f9) (f10 := f10) (f11 := f11) k3 s9.a ?_;rw [qz, tX];have h5 : 0 < x8.l.length := by have := s9.ok.aD; omega
 obtain ⟨r, hr⟩ : ∃ r, w8.rs[0]? = some r := ⟨_, Ur (by rw [s9.a.aD.1]; exact h5)⟩;refine Ql (f1 := f1) (f2 := f2) (f3 := f3) (f4 := f4) (f5 := f5) (f6 := f6) (f7 := f7) (f8 := f8) (f9 := f9) (f10 := f10) (f11 := f11) (by simp [fj, k3]) s9.a h5 hr ?_;rw [qz, tX];have k4 := (ks 4 (by decide)).trans l4;have k5 := (ks 5 (by decide)).trans l5;have k7 := (ks 7 (by decide)).trans l7;have k0 := ks 0 (by decide);refine Qp (f1 := f1) (f2 := f2) (f3 := f3) (f4 := f4) (f5 := f5) (f6 := f6) (f7 := f7) (f8 := f8) (f9 := f9) (f10 := f10) (f11 := f11) u4 u5 u6 s9 (by omega) hr (i := i) (by simp [fj, k3]) (by simp [fj, k7]) (by simp [fj]) (by simp [fj, k4]) (by simp [fj, k5]) (by simp [fj, k6]) (λLw Ha ba Λa wa xa Sa Ta Na Ra ra a3 js j4 j5 j6 a4 hba sa => ?_);rw [qz];have a2 := (js 11 (by decide)).trans (show _ = AV.aC r 21 0 0 by simp [fj]);refine Qq (f1 := f1) (f2 := f2) (f3 := f3) (f4 := f4) (f5 := f5) (f6 := f6) (f7 := f7) (f8 := f8) (f9 := f9) (f10 := f10) (f11 := f11) u6 u7 u8 u9 W sa a4 a2 j4 j5 j6 (λLx Hb qs sb => ?_);refine hK Lx Hb ba Λa wa xa Sa Ta Na Ra ra a3 (λn hn => ?_) ((qs 4 (by decide)).trans j4) ((qs 5 (by decide)).trans j5) ((qs 6 (by decide)).trans j6) (by omega) sb;rcases hn with rfl | rfl | rfl;·exact (qs 0 (by decide)).trans ((js 0 (by decide)).trans (by simp [fj, k0]))
 ·exact (qs 3 (by decide)).trans ((js 3 (by decide)).trans (by simp [fj, k3, l3]))
 ·exact (qs 7 (by decide)).trans ((js 7 (by decide)).trans (by simp [fj, k7, l7]))
end
theorem PU {P:Program}{f f1 f2 f3 f4 f5 f6 f7 f8 f9 f10 f11:FuncId}(hf:Is P f (zI f1 f2 f3 f4 f5 f6 f7 f8 f9 f10 f11))(u1:yc P f1)(u2:sE P f2)(u3:ug (λq=>q<=7) P f3)(u4:uu P f4)(u5:lQ P f5)(u6:qV P f6)(u7:uv P f7)(u8:ou P f8 eZ.aG)(u9:mQ P f9 .i64)(a4:pt P f10)(u:yN P f11)(l:List nP)(h:eW):fC P f [(qt l).av] h λv h'=>v=.aE true/\h'=h:=by
 refine fC.aC (K:=λv h'=>v=.aE true/\eV eY h h') (fU hf ?_) (λr _ ⟨e,hx⟩=>⟨hx,r,by rw[e];exact gY.aE _,e⟩);have al:∀H,Rd eY H (qt l) (qt l).av:=λH=>vv _ _ _;have ll:ik (qt l).av=some (.aA .i64 l.length):=by have:=(al h).aC;simpa [qt] using this
 generalize (qt l).av=la at *;simp only[zI,go_sem];refine fA ⟨u1.1,u1.2 h 3 (by omega)⟩ ?_;rintro _ H ⟨nb,Λ,w,rfl,X,hz,a⟩;simp only[go_sem];obtain⟨I,hI⟩:∃I:Nat->fV->eW->Prop,∀m Lv h',I m Lv h'↔∃(i b:Nat)(Λ:Nat->Nat)(w:fX)(x:gw)(S:List Int)(T N R round:Int)(hv:AV),(lk 0 Lv=la/\lk 3 Lv=.aC nb 9 0 0/\lk 4 Lv=.aA .i64 round/\lk 5 Lv=.aA .i64 T/\lk 6 Lv=hv/\lk 7 Lv=.aA .i64 (i:Int))/\kC h nb b Λ h' w x S S T N R round hv/\b<=2*i/\i<=200/\m=200-i:=⟨_,λ_ _ _=>VW⟩;refine iM I 200 ((hI _ _ _).2 ⟨0,0,Λ,w,_,[],0,1,0,0,.aD,⟨by simp[fj,h_],by simp[fj],by simp[fj],by simp[fj],by simp[fj],by simp[fj]⟩,⟨a,JW (by omega),JV 3,by omega,.inl ⟨rfl,rfl⟩,Uy _,JY,by omega,.inr ⟨rfl,rfl,rfl⟩,hz,X⟩,by omega,by omega,by omega⟩) ?_;clear a hz X;intro q Lv h1 hh;obtain⟨i,b,Λ1,w1,x,S,T,N,R,round,hv,⟨k0,k3,k4,k5,k6,k7⟩,s,hb,hi,rfl⟩:=(hI _ _ _).1 hh;clear hh;have ew:IntKind.i64.wrap ((i:Int)+1)=((i+1:Nat):Int):=by rw[gi (by omega)];omega
 by_cases c1:i<l.length
 ·have E:(i:Int)<l.length:=by omega
  by_cases c2:i<200
  ·have W:(i:Int)<200:=by omega
   have bp:=s.bb.aA;have l5:=s.ok.aD;have bl:=s.bb.aA;have body:∀(Lx:fV)(K:AX->St->Prop),lk 0 Lx=la->lk 3 Lx=.aC nb 9 0 0->lk 4 Lx=.aA .i64 round->lk 5 Lx=.aA .i64 T->lk 6 Lx=hv->lk 7 Lx=.aA .i64 (i:Int)->
     (∀Lv H' b' Λ' w' x' S' T' N' R' round' a1,(∀n,n=0\/n=3\/n=7->lk n Lv=lk n Lx)->lk 4 Lv=.aA .i64 round'->lk 5 Lv=.aA .i64 T'->lk 6 Lv=a1->b'<=b+2->kC h nb b' Λ' H' w' x' S' S' T' N' R' round' a1->K .aA ⟨Lv,[],H'⟩)->vc P (iP f1 f2 f3 f4 f5 f6 f7 f8 f9 f10 f11).tl.hd.aC ⟨Lx,[],h1⟩ K:=by
    intro Lx K x0 x3 x4 x5 x6 x7 hK;refine Qm (f1:=f1) (f2:=f2) (f3:=f3) (f4:=f4) (f5:=f5) (f6:=f6) (f7:=f7) (f8:=f8) (f9:=f9) (f10:=f10) (f11:=f11) u2 al c1 (by omega) s.a x0 x3 x7 (λLy H' n8 n10 X8 g8 a3 U ks j8 j9 Z b8 a8=>?_);have e:(iP f1 f2 f3 f4 f5 f6 f7 f8 f9 f10 f11).tl.hd.aC.tl.tl.tl.tl=.aA (iP f1 f2 f3 f4 f5 f6 f7 f8 f9 f10 f11).tl.hd.aC.tl.tl.tl.tl.hd (iP f1 f2 f3 f4 f5 f6 f7 f8 f9 f10 f11).tl.hd.aC.tl.tl.tl.tl.tl:=rfl;rw[e,tX];clear e;have y3:=(ks 3 (by decide) (by decide) (by decide)).trans x3;have p0:0<=jk l[i].a x.aA.length:=by
     by_cases c:(0:Int)<x.aA.length
     ·exact (qC c).1
     ·unfold jk;rw[Uv (by omega)];exact UL _
    have a7:0<x.aA.length->(jk l[i].a x.aA.length).toNat<x.aA.length:=λc=>by have:=(qC (k:=l[i].a) (n:=x.aA.length) (by omega)).2;omega
    have a6:lk 9 Ly=.aA .i64 (((jk l[i].a x.aA.length).toNat:Nat):Int):=by rw[j9];congr 1;omega
    refine Qk (f1:=f1) (f2:=f2) (f3:=f3) (f4:=f4) (f5:=f5) (f6:=f6) (f7:=f7) (f8:=f8) (f9:=f9) (f10:=f10) (f11:=f11) s.a X8 a3 a7 y3 j8 a6 Z b8 a8 (λLz H'' m e d M X9 same a5 hm=>?_);rw[qz];have q:∀n,n≠8->n≠9->n≠10->n≠57->lk n Lz=lk n Lx:=λn h1 h2 h3 h4=>(M n h4).trans (ks n h1 h2 h3);refine Qr (f1:=f1) (f2:=f2) (f3:=f3) (f4:=f4) (f5:=f5) (f6:=f6) (f7:=f7) (f8:=f8) (f9:=f9) (f10:=f10) (f11:=f11) u3 u4 u5 u6 u7 u8 u9 a4 (qC (by omega)) (s.up X9) (by omega) (s.a.aE a3) ((q 3 (by decide) (by decide) (by decide) (by decide)).trans x3) ((q 4 (by decide) (by decide) (by decide) (by decide)).trans x4) ((q 5 (by decide) (by decide) (by decide) (by decide)).trans x5) ((q 6 (by decide) (by decide) (by decide) (by decide)).trans x6) ((q 7 (by decide) (by decide) (by decide) (by decide)).trans x7) ((M 8 (by decide)).trans j8) ((M 10 (by decide)).trans Z) ((same n8 U).trans b8) a5 hm (λLa Ha ba Λa wa xa Sa Ta Na Ra ra O js ja jb jc a2 sa=>?_);refine hK La Ha ba Λa wa xa Sa Ta Na Ra ra O (λn hn=>(js n hn).trans (q n ?_ ?_ ?_ ?_)) ja jb jc a2 sa<;>omega
   have e0:(iP f1 f2 f3 f4 f5 f6 f7 f8 f9 f10 f11)=.aA (iP f1 f2 f3 f4 f5 f6 f7 f8 f9 f10 f11).hd (.aA (.aG 1 (iP f1 f2 f3 f4 f5 f6 f7 f8 f9 f10 f11).tl.hd.aC) (iP f1 f2 f3 f4 f5 f6 f7 f8 f9 f10 f11).tl.tl):=rfl;rw[e0];clear e0;generalize (iP f1 f2 f3 f4 f5 f6 f7 f8 f9 f10 f11).tl.hd.aC=D at body ⊢;simp only[iP,AC.aF,AC.aD,go_sem,k0,k7,ll,Uu E,Uu W];refine body _ _ (by simp[fj,k0]) (by simp[fj,k3]) (by simp[fj,k4]) (by simp[fj,k5]) (by simp[fj,k6]) (by simp[fj,k7]) (λLa Ha ba Λa wa xa Sa Ta Na Ra ra O js ja jb jc a2 sa=>?_);have j0:=js 0 (by decide);have j3:=js 3 (by decide);have j7:=(js 7 (by decide)).trans (show _=AV.aA .i64 (i:Int) by simp[fj,k7]);simp only[go_sem,j7,ew];exact⟨_,by omega,(hI _ _ _).2 ⟨i+1,ba,Λa,wa,xa,Sa,Ta,Na,Ra,ra,O,⟨by rw[fj,Uw (by decide),j0];simp[fj,k0],by rw[fj,Uw (by decide),j3];simp[fj,k3],by rw[fj,Uw (by decide)];exact ja,by rw[fj,Uw (by decide)];exact jb,by rw[fj,Uw (by decide)];exact jc,by simp[fj]⟩,sa,by omega,by omega,rfl⟩⟩
  ·have W:¬(i:Int)<200:=by omega
   simp only[iP,go_sem,k0,k7,ll,Uu E,Us W];refine gh u.1 (u.2 _) ?_;simp only[go_sem];exact s.X
 ·have E:¬(i:Int)<l.length:=by omega
  simp only[iP,go_sem,k0,k7,ll,Us E];refine gh u.1 (u.2 _) ?_;simp only[go_sem];exact s.X
end Glb
