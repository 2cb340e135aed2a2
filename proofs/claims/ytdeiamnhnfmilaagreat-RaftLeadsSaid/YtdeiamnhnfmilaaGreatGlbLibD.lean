/-
  A library of its own.
-/
import Derived.Test.YtdeiamnhnfmilaaGreatGlbLibC
import Derived.ChangeArms
import Derived.WideKeyArgs
import Derived.Below
set_option linter.unusedSimpArgs false
set_option linter.unusedVariables false
namespace Glb
open Go
inductive D where
 | aA (k:IntKind) (n:Int)
 | aE (b:Bool)
 | aF (s:ByteArray)
 | sl (sz:Nat) (es:List (List D))
def uG (cap:Option Nat)(len:Nat):Prop:=∀c,cap=some c->len<=c
def nM (F:Nat->Prop)(h:fu)(sz:Nat)(av:AV)(es:List (List AV)):Prop:=
 (av=.aC/\es=[])\/(∃t c,av=.aM t c sz es) \/
  ∃n off len cap row g,av=.aG n sz off len cap/\F n/\h[n]?=some (some (.aA sz row g))/\off+len<=row.length/\uG cap len/\es=(row.drop off).take len
mutual
def Rd (F:Nat->Prop)(h:fu):D->AV->Prop
 | .aA k n,av=>av=.aD k n
 | .aE b,av=>av=.aE b
 | .aF s,av=>av=.aQ s
 | .sl sz ds,av=>∃es,nM F h sz av es/\gB F h ds es
def fH (F:Nat->Prop)(h:fu):List D->List AV->Prop
 | [],l=>l=[]
 | d :: ds,l=>∃a r,l=a :: r/\Rd F h d a/\fH F h ds r
def gB (F:Nat->Prop)(h:fu):List (List D)->List (List AV)->Prop
 | [],l=>l=[]
 | e :: ds,l=>∃a r,l=a :: r/\fH F h e a/\gB F h ds r
end
mutual
def fA:D->(Nat->Prop)->fu->AV->Prop
 | .aA k n,_,_,av=>av=.aD k n
 | .aE b,_,_,av=>av=.aE b
 | .aF s,_,_,av=>av=.aQ s
 | .sl sz ds,F,h,av=>(av=.aC/\ds=[])\/(∃t c,av=.aM t c sz []/\ds=[]) \/
   ∃n off cap row g,av=.aG n sz off ds.length cap/\F n/\h[n]?=some (some (.aA sz row g))/\off+ds.length<=row.length/\uG cap ds.length /\
    fQ ds (λm=>F m/\m≠n) h ((row.drop off).take ds.length)
def fU:List D->(Nat->Prop)->fu->List AV->Prop
 | [],_,_,l=>l=[]
 | d :: ds,F,h,l=>∃a r,l=a :: r/\fA d F h a/\fU ds F h r
def fQ:List (List D)->(Nat->Prop)->fu->List (List AV)->Prop
 | [],_,_,l=>l=[]
 | e :: ds,F,h,l=>∃a r,l=a :: r/\fU e F h a/\fQ ds F h r
end
theorem mz {F h}:∀{ds:List (List D)} {es:List (List AV)},gB F h ds es->es.length=ds.length:=by
 intro ds;induction ds with
 | nil=>intro es h;simp only[gB]at h;subst h;rfl
 | cons e ds ih=>intro es h;simp only[gB]at h;obtain⟨a,r,rfl,_,h⟩:=h;simp[ih h]
theorem vS {F h}:∀{ds:List D}{es:List AV},fH F h ds es->es.length=ds.length:=by
 intro ds;induction ds with
 | nil=>intro es h;simp only[fH]at h;subst h;rfl
 | cons e ds ih=>intro es h;simp only[fH]at h;obtain⟨a,r,rfl,_,h⟩:=h;simp[ih h]
theorem ug {F h}:∀{ds:List (List D)} {es:List (List AV)},gB F h ds es->∀(i:Nat)(d:List D),ds[i]?=some d->∃e,es[i]?=some e/\fH F h d e:=by
 intro ds;induction ds with
 | nil=>intro es h i d hd;simp at hd
 | cons e ds ih=>
  intro es h i d hd;simp only[gB]at h;obtain⟨a,r,rfl,h1,h2⟩:=h;cases i with
  | zero=>simp at hd;subst hd;exact⟨a,rfl,h1⟩
  | succ i=>obtain⟨e',h3,h4⟩:=ih h2 i d (by simpa using hd);exact⟨e',by simpa using h3,h4⟩
theorem FN {F h}:∀{ds:List (List D)} {es:List (List AV)},es.length=ds.length->(∀(i:Nat)(d:List D)(e:List AV),ds[i]?=some d->es[i]?=some e->fH F h d e)->gB F h ds es:=by
 intro ds;induction ds with
 | nil=>intro es hl _;simp only[gB];exact W5 (by simpa using hl)
 | cons d ds ih=>
  intro es hl hh;cases es with
  | nil=>simp at hl
  | cons e es=>simp only[gB];exact⟨e,es,rfl,hh 0 d e rfl rfl,ih (by simpa using hl) λi d' e' h1 h2=>hh (i+1) d' e' (by simpa using h1) (by simpa using h2)⟩
theorem vR {F h}:∀{ds u:List (List D)} {es e:List (List AV)},gB F h ds es->gB F h u e->gB F h (ds++u) (es++e):=by
 intro ds;induction ds with
 | nil=>intro u es e h1 h2;simp only[gB]at h1;subst h1;exact h2
 | cons d ds ih=>intro u es e h1 h2;simp only[gB]at h1;obtain⟨a,r,rfl,h3,h4⟩:=h1;exact⟨a,r++e,rfl,h3,ih h4 h2⟩
theorem AL {F h}{ds:List (List D)}{es:List (List AV)}(hh:gB F h ds es)(k:Nat):gB F h (ds.take k) (es.take k):=by
 refine FN (by simp[mz hh]) λi d e h1 h2=>?_;rw[Ye]at h1 h2;split at h1;·rename_i hi;rw[WW hi]at h2;obtain⟨e',h3,h4⟩:=ug hh i d h1;rw[h2]at h3;cases h3;exact h4
 ·cases h1
theorem AK {F h}{ds:List (List D)}{es:List (List AV)}(hh:gB F h ds es)(k:Nat):gB F h (ds.drop k) (es.drop k):=by refine FN (by simp[mz hh]) λi d e h1 h2=>?_;rw[Xv]at h1 h2;obtain⟨e',h3,h4⟩:=ug hh _ d h1;rw[h2]at h3;cases h3;exact h4
theorem pM {F h}:∀{ds:List (List D)} {es:List (List AV)},fQ ds F h es->es.length=ds.length:=by
 intro ds;induction ds with
 | nil=>intro es h;simp only[fQ]at h;subst h;rfl
 | cons e ds ih=>intro es h;simp only[fQ]at h;obtain⟨a,r,rfl,_,h⟩:=h;simp[ih h]
theorem FI {F h}:∀{ds:List (List D)} {es:List (List AV)},fQ ds F h es->∀(i:Nat)(d:List D),ds[i]?=some d->∃e,es[i]?=some e/\fU d F h e:=by
 intro ds;induction ds with
 | nil=>intro es h i d hd;simp at hd
 | cons e ds ih=>
  intro es h i d hd;simp only[fQ]at h;obtain⟨a,r,rfl,h1,h2⟩:=h;cases i with
  | zero=>simp at hd;subst hd;exact⟨a,rfl,h1⟩
  | succ i=>obtain⟨e',h3,h4⟩:=ih h2 i d (by simpa using hd);exact⟨e',by simpa using h3,h4⟩
theorem FJ {F h}:∀{ds:List (List D)} {es:List (List AV)},es.length=ds.length->(∀(i:Nat)(d:List D)(e:List AV),ds[i]?=some d->es[i]?=some e->fU d F h e)->fQ ds F h es:=by
 intro ds;induction ds with
 | nil=>intro es hl _;simp only[fQ];exact W5 (by simpa using hl)
 | cons d ds ih=>
  intro es hl hh;cases es with
  | nil=>simp at hl
  | cons e es=>simp only[fQ];exact⟨e,es,rfl,hh 0 d e rfl rfl,ih (by simpa using hl) λi d' e' h1 h2=>hh (i+1) d' e' (by simpa using h1) (by simpa using h2)⟩
theorem n9 {F h}:∀{ds u:List (List D)} {es e:List (List AV)},fQ ds F h es->fQ u F h e->fQ (ds++u) F h (es++e):=by
 intro ds;induction ds with
 | nil=>intro u es e h1 h2;simp only[fQ]at h1;subst h1;exact h2
 | cons d ds ih=>intro u es e h1 h2;simp only[fQ]at h1;obtain⟨a,r,rfl,h3,h4⟩:=h1;exact⟨a,r++e,rfl,h3,ih h4 h2⟩
theorem KX {F h}{ds:List (List D)}{es:List (List AV)}(hh:fQ ds F h es)(k:Nat):fQ (ds.take k) F h (es.take k):=by
 refine FJ (by simp[pM hh]) λi d e h1 h2=>?_;rw[Ye]at h1 h2;split at h1;·rename_i hi;rw[WW hi]at h2;obtain⟨e',h3,h4⟩:=FI hh i d h1;rw[h2]at h3;cases h3;exact h4
 ·cases h1
theorem KW {F h}{ds:List (List D)}{es:List (List AV)}(hh:fQ ds F h es)(k:Nat):fQ (ds.drop k) F h (es.drop k):=by refine FJ (by simp[pM hh]) λi d e h1 h2=>?_;rw[Xv]at h1 h2;obtain⟨e',h3,h4⟩:=FI hh _ d h1;rw[h2]at h3;cases h3;exact h4
def ik (F:Nat->Prop)(h h':fu):Prop:=∀m,F m->∀x,h[m]?=some x->h'[m]?=some x
theorem fq.aE {h h':fu}(F:Nat->Prop)(a:fq fB h h'):ik F h h':=λ_ _ _ hx=>a.aA hx
theorem fq.aO {F F':Nat->Prop}{h h':fu}(a:fq F h h')(hd:∀m,m<h.length->F' m->¬F m):ik F' h h':=λm hm x hx=>by have:=(WR.1 hx).1;rw[a.2 m this (hd m this hm)];exact hx
theorem nM.aE {F F' h h' sz av es}(hF:∀m,F m->F' m)(hk:ik F h h')(hh:nM F h sz av es):nM F' h' sz av es:=by
 rcases hh with hh | hh | ⟨n,off,len,cap,row,g,h1,h2,h3,h4,h5⟩;·exact .inl hh
 ·exact .inr (.inl hh)
 ·exact .inr (.inr ⟨n,off,len,cap,row,g,h1,hF n h2,hk n h2 _ h3,h4,h5⟩)
mutual
theorem Rd.aE {F F':Nat->Prop}{h h':fu}(hF:∀m,F m->F' m)(hk:ik F h h'):∀(d:D)(av:AV),Rd F h d av->Rd F' h' d av
 | .aA _ _,_,hh=>hh
 | .aE _,_,hh=>hh
 | .aF _,_,hh=>hh
 | .sl _ ds,_,hh=>by simp only[Rd]at hh ⊢;obtain⟨es,h1,h2⟩:=hh;exact⟨es,h1.aE hF hk,gB.aA hF hk ds es h2⟩
theorem fH.aA {F F':Nat->Prop}{h h':fu}(hF:∀m,F m->F' m)(hk:ik F h h'):∀(ds:List D)(l:List AV),fH F h ds l->fH F' h' ds l
 | [],_,hh=>hh
 | d :: ds,_,hh=>by simp only[fH]at hh ⊢;obtain⟨a,r,h1,h2,h3⟩:=hh;exact⟨a,r,h1,Rd.aE hF hk d a h2,fH.aA hF hk ds r h3⟩
theorem gB.aA {F F':Nat->Prop}{h h':fu}(hF:∀m,F m->F' m)(hk:ik F h h'):∀(ds:List (List D)) (l:List (List AV)),gB F h ds l->gB F' h' ds l
 | [],_,hh=>hh
 | d :: ds,_,hh=>by simp only[gB]at hh ⊢;obtain⟨a,r,h1,h2,h3⟩:=hh;exact⟨a,r,h1,fH.aA hF hk d a h2,gB.aA hF hk ds r h3⟩
end
mutual
theorem fA.aC:∀(d:D){F F':Nat->Prop}{h h':fu}(_:∀m,F m->F' m)(_:ik F h h')(av:AV),fA d F h av->fA d F' h' av
 | .aA _ _,_,_,_,_,_,_,_,hh=>hh
 | .aE _,_,_,_,_,_,_,_,hh=>hh
 | .aF _,_,_,_,_,_,_,_,hh=>hh
 | .sl _ ds,F,F',h,h',hF,hk,_,hh=>by
  simp only[fA]at hh ⊢;rcases hh with hh | hh | ⟨n,off,cap,row,g,h1,h2,h3,h4,hc,h5⟩
  ·exact .inl hh
  ·exact .inr (.inl hh)
  ·exact .inr (.inr ⟨n,off,cap,row,g,h1,hF n h2,hk n h2 _ h3,h4,hc,fQ.aA ds (λm hm=>⟨hF m hm.1,hm.2⟩) (λm hm=>hk m hm.1) _ h5⟩)
theorem fU.aA:∀(ds:List D){F F':Nat->Prop}{h h':fu}(_:∀m,F m->F' m)(_:ik F h h')(l:List AV),fU ds F h l->fU ds F' h' l
 | [],_,_,_,_,_,_,_,hh=>hh
 | d :: ds,_,_,_,_,hF,hk,_,hh=>by simp only[fU]at hh ⊢;obtain⟨a,r,h1,h2,h3⟩:=hh;exact⟨a,r,h1,fA.aC d hF hk a h2,fU.aA ds hF hk r h3⟩
theorem fQ.aA:∀(ds:List (List D)) {F F':Nat->Prop} {h h':fu} (_:∀m,F m->F' m) (_:ik F h h') (l:List (List AV)),fQ ds F h l->fQ ds F' h' l
 | [],_,_,_,_,_,_,_,hh=>hh
 | d :: ds,_,_,_,_,hF,hk,_,hh=>by simp only[fQ]at hh ⊢;obtain⟨a,r,h1,h2,h3⟩:=hh;exact⟨a,r,h1,fU.aA d hF hk a h2,fQ.aA ds hF hk r h3⟩
end
mutual
theorem fA.rd:∀(d:D){F F':Nat->Prop}{h:fu}(_:∀m,F m->F' m)(av:AV),fA d F h av->Rd F' h d av
 | .aA _ _,_,_,_,_,_,hh=>hh
 | .aE _,_,_,_,_,_,hh=>hh
 | .aF _,_,_,_,_,_,hh=>hh
 | .sl sz ds,F,F',h,hF,_,hh=>by
  simp only[fA,Rd]at hh ⊢;rcases hh with⟨rfl,rfl⟩ | ⟨t,c,rfl,rfl⟩ | ⟨n,off,cap,row,g,h1,h2,h3,h4,hc,h5⟩
  ·exact⟨[],.inl ⟨rfl,rfl⟩,rfl⟩
  ·exact⟨[],.inr (.inl ⟨t,c,rfl⟩),rfl⟩
  ·exact⟨_,.inr (.inr ⟨n,off,_,cap,row,g,h1,hF n h2,h3,h4,hc,rfl⟩),fQ.rd ds (λm hm=>hF m hm.1) _ h5⟩
theorem fU.rd:∀(ds:List D){F F':Nat->Prop}{h:fu}(_:∀m,F m->F' m)(l:List AV),fU ds F h l->fH F' h ds l
 | [],_,_,_,_,_,hh=>hh
 | d :: ds,_,_,_,hF,_,hh=>by simp only[fU,fH]at hh ⊢;obtain⟨a,r,h1,h2,h3⟩:=hh;exact⟨a,r,h1,fA.rd d hF a h2,fU.rd ds hF r h3⟩
theorem fQ.rd:∀(ds:List (List D)) {F F':Nat->Prop} {h:fu} (_:∀m,F m->F' m) (l:List (List AV)),fQ ds F h l->gB F' h ds l
 | [],_,_,_,_,_,hh=>hh
 | d :: ds,_,_,_,hF,_,hh=>by simp only[fQ,gB]at hh ⊢;obtain⟨a,r,h1,h2,h3⟩:=hh;exact⟨a,r,h1,fU.rd d hF a h2,fQ.rd ds hF r h3⟩
end
theorem ik.lt (F:Nat->Prop)(h:fu):∀m,F m->∀x,h[m]?=some x->h[m]?=some x:=λ_ _ _ hx=>hx
mutual
theorem fA.lt:∀(d:D){F:Nat->Prop}{h:fu}(av:AV),fA d F h av->fA d (λm=>F m/\m<h.length) h av
 | .aA _ _,_,_,_,hh=>hh
 | .aE _,_,_,_,hh=>hh
 | .aF _,_,_,_,hh=>hh
 | .sl sz ds,F,h,_,hh=>by
  simp only[fA]at hh ⊢;rcases hh with hh | hh | ⟨n,off,cap,row,g,h1,h2,h3,h4,hc,h5⟩
  ·exact .inl hh
  ·exact .inr (.inl hh)
  ·exact .inr (.inr ⟨n,off,cap,row,g,h1,⟨h2,(WR.1 h3).1⟩,h3,h4,hc,
    fQ.aA ds (λm hm=>⟨⟨hm.1.1,hm.2⟩,hm.1.2⟩) (λ_ _ _ hx=>hx) _ (fQ.lt ds _ h5)⟩)
theorem fU.lt:∀(ds:List D){F:Nat->Prop}{h:fu}(l:List AV),fU ds F h l->fU ds (λm=>F m/\m<h.length) h l
 | [],_,_,_,hh=>hh
 | d :: ds,_,_,_,hh=>by simp only[fU]at hh ⊢;obtain⟨a,r,h1,h2,h3⟩:=hh;exact⟨a,r,h1,fA.lt d a h2,fU.lt ds r h3⟩
theorem fQ.lt:∀(ds:List (List D)) {F:Nat->Prop} {h:fu} (l:List (List AV)),fQ ds F h l->fQ ds (λm=>F m/\m<h.length) h l
 | [],_,_,_,hh=>hh
 | d :: ds,_,_,_,hh=>by simp only[fQ]at hh ⊢;obtain⟨a,r,h1,h2,h3⟩:=hh;exact⟨a,r,h1,fU.lt d a h2,fQ.lt ds r h3⟩
end
def jV (h:fu):AV->Option (List AV)
 | .aA m sz i o=>match h[m]? with
  | some (some (.aA sz' es _))=>if sz=sz' then (es[i]?).map (·.drop o) else none
  | _=>none
 | .aO _ cs=>some cs
 | _=>none
def py (o:Nat):AV->AV
 | .aA m sz i o'=>.aA m sz i (o'+o)
 | .aO t cs=>.aO t (cs.drop o)
 | v=>v
theorem jN {h p cs}(hp:jV h p=some cs)(agg:Bool)(n:Nat):iK h agg n p=qM agg n cs:=by
 unfold jV at hp;split at hp
 ·rename_i m sz i o;simp only[iK];split at hp
  ·rename_i sz' es g hm;simp only[hm];split at hp
   ·rename_i e;rw[WW e];cases he:es[i]? with
    | none=>simp[he]at hp
    | some e'=>simp[he]at hp;subst hp;rfl
   ·cases hp
  ·cases hp
 ·cases hp;rfl
 ·cases hp
theorem oW {h p cs}(hp:jV h p=some cs)(o:Nat):uy o p=some (py o p):=by
 unfold jV at hp;split at hp;·rfl
 ·rfl
 ·cases hp
theorem wU {h p cs}(hp:jV h p=some cs)(o:Nat):jV h (py o p)=some (cs.drop o):=by
 unfold jV at hp;split at hp
 ·rename_i m sz i o';simp only[py,jV];split at hp
  ·rename_i sz' es g hm
   (try simp only[hm])
   split at hp
   ·rename_i e
    (try rw[WW e])
    cases he:es[i]? with
    | none=>simp[he]at hp
    | some e'=>simp[he]at hp;subst hp;simp[List.drop_drop]
   ·cases hp
  ·cases hp
 ·cases hp;rfl
 ·cases hp
theorem pR {h p cs}(hp:jV h p=some cs)(o:Nat)(agg:Bool)(n:Nat):iK h agg n (py o p)=qM agg n (cs.drop o):=jN (wU hp o) agg n
theorem RQ {F:Nat->Prop}{h h':fu}(hk:ik F h h'){m sz i o cs}(hm:F m)(hp:jV h (.aA m sz i o)=some cs):jV h' (.aA m sz i o)=some cs:=by
 simp only[jV]at hp ⊢;split at hp;·rename_i sz' es g hx;rw[hk m hm _ hx];exact hp
 ·cases hp
theorem nM.aD {F h sz av es}(hh:nM F h sz av es):iJ av=some (ι es.length):=by
 rcases hh with⟨rfl,rfl⟩ | ⟨t,c,rfl⟩ | ⟨n,off,len,cap,row,g,rfl,_,_,h4,_,rfl⟩;·rfl
 ·rfl
 ·simp only[iJ,W7,Xk];congr 2;omega
theorem nM.aA {F h sz av es}(hh:nM F h sz av es):jD h sz av=some es:=by
 rcases hh with⟨rfl,rfl⟩ | ⟨t,c,rfl⟩ | ⟨n,off,len,cap,row,g,rfl,_,h3,h4,_,rfl⟩;·rfl
 ·simp[jD]
 ·simp[jD,h3,h4]
theorem nM.aC {F h sz av es}(hh:nM F h sz av es)(k:IntKind){i:Int}{e:List AV}(h0:0<=i) (he:es[i.toNat]?=some e):
  ∃p,jq sz av (.aD k i)=some p/\jV h p=some e:=by
 rcases hh with⟨rfl,rfl⟩ | ⟨t,c,rfl⟩ | ⟨n,off,len,cap,row,g,rfl,_,h3,h4,_,rfl⟩;·simp at he
 ·exact⟨.aO t e,by simp[jq,h0,he],rfl⟩
 ·have hlt:=(WR.1 he).1;simp only[W7,Xk]at hlt;rw[XV ω,Xv]at he;refine⟨.aA n sz (off+i.toNat) 0,?_,?_⟩;·simp only[jq];rw[WW ⟨Xb,h0,ω⟩]
  ·simp[jV,h3,he]
theorem nM.aF {F h sz av es}(hh:nM F h sz av es){lo hi mx:Option Int}(h0:0<=lo.getD 0)(h1:lo.getD 0<=hi.getD es.length)(h2:hi.getD es.length<=(es.length:Int))
  (h3:hi.getD es.length<=mx.getD (hi.getD es.length)) (h4:mx.getD (hi.getD es.length)<=(es.length:Int)) (h5:mx.isSome->hi.isSome):
  ∃I,iX sz av lo hi mx=some I/\nM F h sz I ((es.take (hi.getD es.length).toNat).drop (lo.getD 0).toNat):=by
 rcases hh with⟨rfl,rfl⟩ | ⟨t,c,rfl⟩ | ⟨n,off,len,cap,row,g,rfl,hF,hm,hle,u,rfl⟩
 ·simp only[Xi,Zt]at h1 h2 h3 h4;have e0:lo.getD 0=0:=ω;have e1:hi.getD 0=0:=ω;have e2:mx.getD 0=0:=by cases mx with
   | none=>rfl
   | some m=>simp at h3 h4 ⊢;omega
  exact⟨.aC,by simp[iX,e0,e1,e2],.inl ⟨rfl,ς⟩⟩
 ·refine⟨.aM t (rX mx (hi.getD es.length) es.length c) sz ((es.take (hi.getD es.length).toNat).drop (lo.getD 0).toNat),?_,.inr (.inl ⟨t,_,rfl⟩)⟩;simp only[iX];rw[WW ⟨Xb,h0,h1,h2,h3,h4⟩]
 ·have hl:((row.drop off).take len).length=len:=by simp;omega
  rw[hl]at h1 h2 h3 h4 ⊢;simp only[iX];have hcl:(len:Int)<=((cap.getD len:Nat):Int):=by
   cases cap with
   | none=>simp
   | some c=>have:=u c rfl;simp;omega
  generalize lo.getD 0=l at *;have O:mx.isSome->jW mx l.toNat cap=some ((mx.getD (hi.getD (len:Int))).toNat-l.toNat):=by
   intro hm;cases mx with
   | none=>simp at hm
   | some m=>rfl
  have U:mx=none->jW mx l.toNat cap=cap.map (·-l.toNat):=by rintro rfl;rfl
  generalize hi.getD (len:Int)=hh at *;have e:uG (jW mx l.toNat cap) (hh.toNat-l.toNat):=by
   intro c hc;cases E:mx with
   | none=>rw[U E]at hc;cases cap with
    | none=>simp at hc
    | some q=>have:=u q rfl;simp at hc;omega
   | some m=>rw[O (by simp[E])]at hc;simp at hc;omega
  rw[WW ⟨Xb,h0,h1,.inl h2,h3,ω⟩];by_cases e0:l=0;·rw[WW e0];subst e0;refine⟨_,rfl,.inr (.inr ⟨n,off,_,_,row,g,rfl,hF,hm,ω,by simpa using e,?_⟩)⟩;rw[Int.toNat_zero,Yt,XM,XW ω]
  ·rw[WY e0];by_cases e1:l<hh;·rw[WW e1];refine⟨_,rfl,.inr (.inr ⟨n,off+l.toNat,_,_,row,g,rfl,hF,hm,ω,e,?_⟩)⟩;rw[XM,List.drop_take,List.drop_drop];congr 1;omega
   ·rw[WY e1];refine⟨_,rfl,.inr (.inl ⟨0,false,?_⟩)⟩;have:(((row.drop off).take len).take hh.toNat).drop l.toNat=[]:=by apply W5;simp;omega
    rw[this]
theorem Rd.aC {F h sz ds av}(hh:Rd F h (.sl sz ds) av):iJ av=some (ι ds.length):=by simp only[Rd]at hh;obtain⟨es,h1,h2⟩:=hh;rw[h1.aD,mz h2]
theorem Rd.aD {F h sz ds av}(hh:Rd F h (.sl sz ds) av)(k:IntKind){i:Int}{d:List D}(h0:0<=i) (hd:ds[i.toNat]?=some d):
  ∃p cs,jq sz av (.aD k i)=some p/\jV h p=some cs/\fH F h d cs:=by
 simp only[Rd]at hh;obtain⟨es,h1,h2⟩:=hh;obtain⟨e,he,hr⟩:=ug h2 _ _ hd;obtain⟨p,h3,h4⟩:=h1.aC k h0 he;exact⟨p,e,h3,h4,hr⟩
theorem Rd.aJ {F h sz ds av}(hh:Rd F h (.sl sz ds) av){lo hi mx:Option Int}(h0:0<=lo.getD 0)(h1:lo.getD 0<=hi.getD ds.length)(h2:hi.getD ds.length<=(ds.length:Int))
  (h3:hi.getD ds.length<=mx.getD (hi.getD ds.length)) (h4:mx.getD (hi.getD ds.length)<=(ds.length:Int)) (h5:mx.isSome->hi.isSome):
  ∃e,iX sz av lo hi mx=some e/\Rd F h (.sl sz ((ds.take (hi.getD ds.length).toNat).drop (lo.getD 0).toNat)) e:=by
 simp only[Rd]at hh ⊢;obtain⟨es,e1,e2⟩:=hh;have hl:=mz e2;obtain⟨e,e3,e4⟩:=e1.aF (lo:=lo) (hi:=hi) (mx:=mx) h0 (by rw[hl];exact h1) (by rw[hl];exact h2) (by rw[hl];exact h3) (by rw[hl];exact h4) h5;rw[hl]at e4;exact⟨e,e3,_,e4,AK (AL e2 _) _⟩
theorem Rd.aH {F h sz ds av}(hh:Rd F h (.sl sz ds) av):∃es,jD h sz av=some es/\gB F h ds es:=by simp only[Rd]at hh;obtain⟨es,h1,h2⟩:=hh;exact⟨es,h1.aA,h2⟩
theorem Rd.aK {F h}(sz:Nat):Rd F h (.sl sz []) .aC:=by simp only[Rd,gB];exact⟨[],.inl ⟨rfl,rfl⟩,rfl⟩
theorem fA.aD {F h}(sz:Nat):fA (.sl sz []) F h .aC:=by simp only[fA];exact .inl ⟨Xb,Xb⟩
theorem fA.aE {sz ds F h a}(hh:fA (.sl sz ds) F h a):∃ys,jD h sz a=some ys/\fQ ds F h ys:=by
 simp only[fA]at hh;rcases hh with⟨rfl,rfl⟩ | ⟨t,c,rfl,rfl⟩ | ⟨n,off,cap,row,g,rfl,h2,h3,h4,hc,h5⟩
 ·exact⟨[],rfl,rfl⟩
 ·exact⟨[],by simp[jD],rfl⟩
 ·exact⟨_,by simp[jD,h3,h4],fQ.aA ds (λm hm=>hm.1) (λ_ _ _ x=>x) _ h5⟩
def ic (h:fu):AV->Prop
 | .aC=>True
 | .aG n sz off len cap=>∃row g,h[n]?=some (some (.aA sz row g))/\(cap=none->off=0)/\∀c,cap=some c->off+c<=row.length
 | .aM _ clip _ _=>clip=true
 | _=>False
theorem ic.aA {F:Nat->Prop}{h h' av d}(hc:ic h av)(ho:fA d F h av)(hk:ik F h h'):ic h' av:=by
 unfold ic at hc ⊢;split;·trivial
 ·rename_i n sz off len cap;obtain⟨row,g,h1,h2⟩:=hc;refine⟨row,g,hk n ?_ _ h1,h2⟩;cases d with
  | sl sz' ds=>
   simp only[fA]at ho;rcases ho with⟨e,_⟩ | ⟨t,c,e,_⟩ | ⟨n',off',cap',row',g',e,hF,_⟩
   ·cases e
   ·cases e
   ·cases e;exact hF
  | aA k n=>simp only[fA]at ho;cases ho
  | aE b=>simp only[fA]at ho;cases ho
  | aF s=>simp only[fA]at ho;cases ho
 ·exact hc
 ·simp_all
theorem nW {lo sz bytes : Nat} {ds es : List (List D)} {h0 h : fu} {av : AV} {ys : List (List AV)} (ho : fA (.sl sz ds) (λm => lo <= m) h0 av) (hc : ic h0 av)
  (hx:fq fB h0 h) (hy:fQ es (λm=>h0.length<=m) h ys) (hlo:lo<=h0.length) (hb:(ds.length+es.length)*bytes<=2^46):
  ∃av' h',iL h sz bytes av ys=some (av',h')/\fA (.sl sz (ds++es)) (λm=>lo<=m) h' av'/\ic h' av'/\fq (λm=>lo<=m) h h':=by
 have hyl:=pM hy;have new:∀(hh:fu) (es':List (List AV)),ik (λm=>lo<=m/\m≠hh.length) hh (hh++[some (.aA sz es' true)]):=λhh es' m hm x hx=>by rw[Xy (WR.1 hx).1];exact hx
 have fresh:∀(hh:fu) (dd:List (List D)) (es':List (List AV)),lo<=hh.length->fQ dd (λm=>lo<=m) hh es'->
   fA (.sl sz dd) (λm=>lo<=m) (gY hh sz es').2 (gY hh sz es').1/\ic (gY hh sz es').2 (gY hh sz es').1:=by
  intro hh dd es' hl hd;have hlen:=pM hd;refine⟨?_,⟨es',true,by simp[gY],(λ_=>rfl),(λc hc=>by cases hc)⟩⟩;simp only[fA,gY];refine .inr (.inr ⟨hh.length,0,none,es',true,by rw[hlen],hl,ς,ω,(λc hc=>by cases hc),?_⟩);have:(es'.drop 0).take dd.length=es':=by rw[Yt,Xu ω]
  rw[this];refine fQ.aA dd (λm hm=>⟨hm.1,by have:=hm.2;omega⟩) ?_ _ (fQ.lt dd _ hd);intro m hm x hx;rw[Xy hm.2];exact hx
 simp only[fA]at ho;rcases ho with⟨rfl,rfl⟩ | ⟨t,c,rfl,rfl⟩ | ⟨n,off,cap,row,g,rfl,hn,hrow,hle,hcl,hd⟩
 · -- nothing yet
  have hy':fQ es (λm=>lo<=m) h ys:=fQ.aA es (λm hm=>Xg hlo hm) (λ_ _ _ x=>x) _ hy;obtain⟨a,b⟩:=fresh h es ys (Xg hlo hx.1) hy';refine⟨_,_,?_,by simpa using a,b,?_⟩;·simp only[iL];rw[WW (by rw[hyl];simpa using hb)]
  ·exact fq.aF _ _ _
 ·have hc1:c=true:=hc;subst hc1;have hy':fQ es (λm=>lo<=m) h ys:=fQ.aA es (λm hm=>Xg hlo hm) (λ_ _ _ x=>x) _ hy;simp only[iL];rw[WW ⟨Xb,by rw[hyl];simpa using hb⟩];by_cases hy0:ys.length=0;·rw[WW hy0];have hes:es=[]:=W5 ω;subst hes;refine⟨_,_,rfl,?_,rfl,fq.aC _ _⟩;simp only[fA];exact .inr (.inl ⟨t,true,rfl,rfl⟩)
  ·rw[WY hy0,WW Xb];obtain⟨a,b⟩:=fresh h es ys (Xg hlo hx.1) hy';exact⟨_,_,rfl,by simpa [gY] using a,b,fq.aF _ _ _⟩
 ·obtain⟨row',g',hrow',hcn,hcs⟩:=hc;rw[hrow]at hrow';obtain⟨rfl,rfl⟩:row=row'/\g=g':=by simpa using hrow'
  have hnlt:=(WR.1 hrow).1;have hrow1:h[n]?=some (some (.aA sz row g)):=hx.aA hrow;have hnlt1:=(WR.1 hrow1).1;have hd1:fQ ds (λm=>lo<=m/\m≠n) h ((row.drop off).take ds.length):=fQ.aA ds (λm hm=>hm) (hx.aE _) _ hd;have hy1:fQ es (λm=>lo<=m/\m≠n) h ys:=fQ.aA es (λm hm=>⟨Xg hlo hm,ω⟩) (λ_ _ _ x=>x) _ hy;have both:fQ (ds++es) (λm=>lo<=m) h ((row.drop off).take ds.length++ys):=fQ.aA _ (λm hm=>hm.1) (λ_ _ _ x=>x) _ (n9 hd1 hy1);simp only[iL,hrow1];rw[WW ⟨Xb,Xb,hle,by rw[hyl];exact hb⟩];cases cap with
  | none=>
   obtain rfl:=hcn rfl;simp only[Yc];have both':fQ (ds++es) (λm=>lo<=m) (h.set n none) (row.take ds.length++ys):=by have:=n9 hd1 hy1;rw[Yt]at this;exact fQ.aA _ (λm hm=>hm.1) (λm hm x hx=>by rw[WS (λe=>hm.2 e.symm)];exact hx) _ this
   obtain⟨a,b⟩:=fresh (h.set n none) (ds++es) (row.take ds.length++ys) (by simp;omega) both';exact⟨_,_,rfl,a,b,(fq.aH none (λ_=>hn)).aD (fq.aF (λm=>lo<=m) _ _) (λ_ _ x=>x) (λ_ _ x=>x)⟩
  | some c=>
   have hc1:=hcl c rfl;have hc2:=hcs c rfl;cases c with
   | zero=>
    have h0:ds.length=0:=ω;have hds:ds=[]:=W5 h0;subst hds;simp only[Xi,Yc];by_cases hy0:ys.length=0;·rw[WW hy0];have hes:es=[]:=W5 ω;subst hes;refine⟨_,_,rfl,?_,⟨row,g,hrow1,(λe=>by cases e),(λc hc=>by cases hc;omega)⟩,fq.aC _ _⟩;simp only[fA];exact .inr (.inr ⟨n,off,some 0,row,g,rfl,hn,hrow1,by simpa using hle,(λc hc=>by cases hc;simp),by simp[fQ]⟩)
    ·rw[WY hy0];have hy2:fQ es (λm=>lo<=m) h ys:=fQ.aA es (λm hm=>hm.1) (λ_ _ _ x=>x) _ hy1;obtain⟨a,b⟩:=fresh h es ys ω hy2;exact⟨_,_,rfl,by simpa [gY] using a,b,fq.aF _ _ _⟩
   | succ c=>
    simp only;by_cases hcap:c+1<ds.length+ys.length;·rw[WW hcap];obtain⟨a,b⟩:=fresh h (ds++es) _ ω both;exact⟨_,_,rfl,a,b,fq.aF _ _ _⟩
    ·rw[WY hcap,WW ω];have hsl:(iq row (off+ds.length) ys).length=row.length:=by simp[iq];omega
     refine⟨_,_,rfl,?_,⟨_,g,by rw[W0 hnlt1],(λe=>by cases e),(λc' hc'=>by cases hc';rw[hsl];exact hc2)⟩,fq.aH _ (λ_=>hn)⟩;simp only[fA];refine .inr (.inr ⟨n,off,some (c+1),iq row (off+ds.length) ys,g,by rw[WT,hyl],hn,by rw[W0 hnlt1],by rw[hsl,WT];omega,
      (λc' hc'=>by cases hc';rw[WT];omega),?_⟩)
     have e:((iq row (off+ds.length) ys).drop off).take (ds++es).length=(row.drop off).take ds.length++ys:=by
      apply XT;intro i;simp only[Ye,Xv,WT,iq,Yk,W7,WT,Xk];rw[show min (off+ds.length) row.length=off+ds.length by omega,show min ds.length (row.length-off)=ds.length by omega];by_cases h1:i<ds.length;·rw[WW ω,WW ω,WW ω,WW ω,WW h1];simp[h1]
      ·by_cases h2:i<ds.length+es.length
       ·rw[WW h2,WW ω,WY ω,WY h1];congr 1;omega
       ·rw[WY h2,WY h1,XP ω]
     rw[e];refine fQ.aA _ (λm hm=>hm) ?_ _ (n9 hd1 hy1);intro m hm x hx;rw[WS (λe=>hm.2 e.symm)];exact hx
theorem u_ {F:Nat->Prop}{sz:Nat}{ds:List (List D)}{h:fu}{av:AV}(ho:fA (.sl sz ds) F h av){k:Int}(h0:0<=k)(hk:k<=ds.length):
  ∃E,iX sz av none (some k) (some k)=some E/\fA (.sl sz (ds.take k.toNat)) F h E/\ic h E:=by
 simp only[fA]at ho;rcases ho with⟨rfl,rfl⟩ | ⟨t,c,rfl,rfl⟩ | ⟨n,off,cap,row,g,rfl,hn,u,hle,I,hd⟩
 ·have:k=0:=by simpa using (by simp at hk;omega:k=0)
  subst this;exact⟨.aC,by simp[iX],fA.aD sz,Xb⟩
 ·have:k=0:=by simpa using (by simp at hk;omega:k=0)
  subst this;refine⟨.aM t true sz [],by simp[iX,rX],?_,rfl⟩;simp only[fA];exact .inr (.inl ⟨t,true,rfl,ς⟩)
 ·have hcl':(ds.length:Int)<=((cap.getD ds.length:Nat):Int):=by
   cases cap with
   | none=>simp
   | some c=>have:=I c rfl;simp;omega
  have hl:(ds.take k.toNat).length=k.toNat:=by simp;omega
  refine⟨.aG n sz off k.toNat (some k.toNat),?_,?_,⟨row,g,u,(λe=>by cases e),(λc hc=>by cases hc;omega)⟩⟩;·simp only[iX,Yo,XJ];rw[WW ⟨Xb,ω,ω,.inl ω,ω,ω⟩,WW Xb];simp[jW]
  ·simp only[fA];refine .inr (.inr ⟨n,off,some k.toNat,row,g,by rw[hl],hn,u,ω,(λc hc=>by cases hc;omega),?_⟩);rw[hl];have:=KX hd k.toNat;rw[XM,XW ω]at this;exact this
def lK (lo:Nat)(h:fu)(sz:Nat)(av:AV)(es:List (List AV)):Prop:=
 (av=.aC/\es=[])\/∃n off cap row g,av=.aG n sz off es.length cap/\lo<=n/\h[n]?=some (some (.aA sz row g))/\off+es.length<=row.length/\uG cap es.length /\
  (cap=none->off=0)/\(∀c,cap=some c->off+c<=row.length)/\(row.drop off).take es.length=es
theorem F8 {lo sz bytes:Nat}{h0 h:fu}{av:AV}{es ys:List (List AV)}(ho:lK lo h0 sz av es)(hx:fq fB h0 h)(a7:lo<=h0.length)
  (hb:(es.length+ys.length)*bytes<=2^46):∃a5 h',iL h sz bytes av ys=some (a5,h')/\lK lo h' sz a5 (es++ys)/\fq (λm=>lo<=m) h h':=by
 have u:∀(hh:fu) (U:List (List AV)),lo<=hh.length->lK lo (gY hh sz U).2 sz (gY hh sz U).1 U:=by intro hh U hl;exact .inr ⟨hh.length,0,none,U,true,rfl,hl,by simp[gY],ω,(λc hc=>by cases hc),(λ_=>rfl),(λc hc=>by cases hc),ς⟩
 rcases ho with⟨rfl,rfl⟩ | ⟨n,off,cap,row,g,rfl,hn,I,a1,a4,a3,a2,he⟩;·refine⟨(gY h sz ys).1,(gY h sz ys).2,?_,u h ys (Xg a7 hx.1),fq.aF _ _ _⟩;simp only[iL];rw[WW (by simpa using hb)]
 ·have hnlt:=(WR.1 I).1;have E:h[n]?=some (some (.aA sz row g)):=hx.aA I;have O:=(WR.1 E).1;simp only[iL,E];rw[WW ⟨Xb,Xb,a1,hb⟩];cases cap with
  | none=>obtain rfl:=a3 rfl;simp only[Yc];rw[Yt]at he;refine⟨_,_,rfl,?_,(fq.aH none (λ_=>hn)).aD (fq.aF (λm=>lo<=m) _ _) (λ_ _ x=>x) (λ_ _ x=>x)⟩;rw[he];exact u _ _ (by simp;omega)
  | some c=>
   have hc1:=a4 c rfl;have aa:=a2 c rfl;cases c with
   | zero=>
    have a8:es=[]:=W5 ω;subst a8;simp only[Xi,Yc];by_cases hy0:ys.length=0;·rw[WW hy0];have a6:ys=[]:=W5 hy0;subst a6;exact⟨_,_,rfl,.inr ⟨n,off,some 0,row,g,rfl,hn,E,a1,a4,a3,a2,he⟩,fq.aC _ _⟩
    ·rw[WY hy0];exact⟨(gY h sz ys).1,(gY h sz ys).2,rfl,u h ys ω,fq.aF _ _ _⟩
   | succ c=>
    simp only;by_cases hcap:c+1<es.length+ys.length;·rw[WW hcap,he];exact⟨_,_,rfl,u _ _ ω,fq.aF _ _ _⟩
    ·rw[WY hcap,WW ω];have Z:(iq row (off+es.length) ys).length=row.length:=by simp[iq];omega
     refine⟨_,_,rfl,.inr ⟨n,off,some (c+1),iq row (off+es.length) ys,g,by rw[WT],hn,by rw[W0 O],by rw[Z,WT];omega,
      (λc' W=>by cases W;rw[WT];omega),(λe=>by cases e),(λc' W=>by cases W;rw[Z];exact aa),?_⟩,fq.aH _ (λ_=>hn)⟩
     apply XT;intro i;have a9:∀i,i<es.length->row[off+i]?=es[i]?:=λi hi=>by
      have:es[i]?=((row.drop off).take es.length)[i]?:=by rw[he]
      rw[this,XV hi,Xv]
     simp only[Ye,Xv,WT,iq,Yk,W7,WT];rw[show min (off+es.length) row.length=off+es.length by omega];by_cases h1:i<es.length;·rw[WW ω,WW ω,WW ω,WW ω,WW h1];exact a9 i h1
     ·by_cases h2:i<es.length+ys.length
      ·rw[WW h2,WW ω,WY ω,WY h1];congr 1;omega
      ·rw[WY h2,WY h1,XP ω]
mutual
theorem Rd.lt:∀(d:D){F:Nat->Prop}{h:fu}(av:AV),Rd F h d av->Rd (λm=>F m/\m<h.length) h d av
 | .aA _ _,_,_,_,hh=>hh
 | .aE _,_,_,_,hh=>hh
 | .aF _,_,_,_,hh=>hh
 | .sl sz ds,F,h,_,hh=>by
  simp only[Rd]at hh ⊢;obtain⟨es,h1,h2⟩:=hh;refine⟨es,?_,gB.lt ds es h2⟩;rcases h1 with h1 | h1 | ⟨n,off,len,cap,row,g,h1,h2,h3,h4⟩
  ·exact .inl h1
  ·exact .inr (.inl h1)
  ·exact .inr (.inr ⟨n,off,len,cap,row,g,h1,⟨h2,(WR.1 h3).1⟩,h3,h4⟩)
theorem fH.lt:∀(ds:List D){F:Nat->Prop}{h:fu}(l:List AV),fH F h ds l->fH (λm=>F m/\m<h.length) h ds l
 | [],_,_,_,hh=>hh
 | d :: ds,_,_,_,hh=>by simp only[fH]at hh ⊢;obtain⟨a,r,h1,h2,h3⟩:=hh;exact⟨a,r,h1,Rd.lt d a h2,fH.lt ds r h3⟩
theorem gB.lt:∀(ds:List (List D)) {F:Nat->Prop} {h:fu} (l:List (List AV)),gB F h ds l->gB (λm=>F m/\m<h.length) h ds l
 | [],_,_,_,hh=>hh
 | d :: ds,_,_,_,hh=>by simp only[gB]at hh ⊢;obtain⟨a,r,h1,h2,h3⟩:=hh;exact⟨a,r,h1,fH.lt d a h2,gB.lt ds r h3⟩
end
theorem TA (g:fN->AV)(h:fu)(x:fN):gM g h (.aF x)=some (g x):=W_ rfl rfl
theorem Tz (g:fN->AV)(h:fu)(agg:Bool)(n:Nat)(x:fN):gM g h (.aA agg n x)=iK h agg n (g x):=W_ rfl rfl
theorem Tq (g:fN->AV)(h:fu)(op:BinOp)(x y:fN):gM g h (.aI op x y)=jX op (g x) (g y):=W_ rfl rfl
theorem Tx (g:fN->AV)(h:fu)(x:fN):gM g h (.aN x)=iJ (g x):=W_ rfl rfl
theorem TD (g:fN->AV)(h:fu)(o:Nat)(x:fN):gM g h (.aQ o x)=uy o (g x):=W_ rfl rfl
theorem Tw (g:fN->AV)(h:fu)(sz:Nat)(x i:fN):gM g h (.aD sz x i)=jq sz (g x) (g i):=W_ rfl rfl
def Gr (c a b:AV):Option AV:=match c with
 | .aE t=>some (if t then a else b)
 | _=>none
theorem TF (g:fN->AV)(h:fu)(c a b:fN):gM g h (.aR c a b)=Gr (g c) (g a) (g b):=W_ rfl rfl
theorem LK (t:Bool)(a b:AV):Gr (.aE t) a b=some (if t then a else b):=W_ rfl rfl
def Gq:AV->Option AV
 | .aE b=>some (.aE !b)
 | _=>none
theorem TC (g:fN->AV)(h:fu)(x:fN):gM g h (.aP x)=Gq (g x):=W_ rfl rfl
theorem LH (b:Bool):Gq (.aE b)=some (.aE !b):=W_ rfl rfl
def Ge (i:Nat):AV->Option AV
 | .aI cs=>cs[i]?
 | _=>none
theorem Tu (g:fN->AV)(h:fu)(x:fN)(i:Nat):gM g h (.aM x i)=Ge i (g x):=W_ rfl rfl
theorem Li (i:Nat)(cs:List AV):Ge i (.aI cs)=cs[i]?:=W_ rfl rfl
def AQ (op:BinOp):AV->AV->Option AV
 | .aE a,.aE b=>yn op a b
 | _,_=>none
theorem Tp (g:fN->AV)(h:fu)(op:BinOp)(x y:fN):gM g h (.aH op x y)=AQ op (g x) (g y):=W_ rfl rfl
theorem Lb (a b:Bool):AQ .eql (.aE a) (.aE b)=some (.aE (a == b)):=W_ rfl rfl
theorem Lc (a b:Bool):AQ .neq (.aE a) (.aE b)=some (.aE (!(a == b))):=W_ rfl rfl
def F9:AV->Option AV
 | .aA n sz i o=>some (.aA n sz i o)
 | .aO t cs=>some (.aO t cs)
 | .aT t v=>some (.aT t v)
 | .aL f fs cs=>some (.aL f fs cs)
 | _=>none
theorem Ts (g:fN->AV)(h:fu)(x:fN):gM g h (.aK x)=F9 (g x):=by simp only[gM];generalize g x=v;cases v<;>rfl
def F_ (k:IntKind):AV->Option AV
 | .aD _ n=>some (.aD k (k.wrap n))
 | _=>none
theorem Tt (g:fN->AV)(h:fu)(k:IntKind)(x:fN):gM g h (.aL k x)=F_ k (g x):=W_ rfl rfl
theorem Ga (k k':IntKind)(n:Int):F_ k (.aD k' n)=some (.aD k (k.wrap n)):=W_ rfl rfl
def Gp:AV->Option AV
 | .aD k n=>some (.aD k (k.wrap (0-n)))
 | _=>none
theorem TB (g:fN->AV)(h:fu)(x:fN):gM g h (.aO x)=Gp (g x):=W_ rfl rfl
theorem LF (k:IntKind)(n:Int):Gp (.aD k n)=some (.aD k (k.wrap (0-n))):=W_ rfl rfl
def n_ (sz:Nat)(x:AV):Option (Option Int)->Option (Option Int)->Option (Option Int)->Option AV
 | some lo,some hi,some mx=>iX sz x lo hi mx
 | _,_,_=>none
theorem Jx (g:fN->AV)(h:fu)(sz:Nat)(x:fN)(lo hi mx:Option fN):gM g h (.aS sz x lo hi mx)=n_ sz (g x) (mL g lo) (mL g hi) (mL g mx):=by simp only[gM,n_];generalize mL g lo=a;generalize mL g hi=b;generalize mL g mx=c;cases a<;>cases b<;>cases c<;>rfl
theorem L3 (sz:Nat)(x:AV)(lo hi mx:Option Int):n_ sz x (some lo) (some hi) (some mx)=iX sz x lo hi mx:=W_ rfl rfl
def Ei:AV->Option (Option Int)
 | .aD _ n=>some (some n)
 | _=>none
theorem Rw (g:fN->AV)(x:fN):mL g (some x)=Ei (g x):=by simp only[mL,Ei];generalize g x=v;cases v<;>rfl
theorem Ru (k:IntKind)(n:Int):Ei (.aD k n)=some (some n):=W_ rfl rfl
theorem Rv (g:fN->AV):mL g none=some none:=W_ rfl rfl
theorem Lh (a b:Int):jX .add (ι a) (ι b)=some (ι (IntKind.i64.wrap (a+b))):=W_ rfl rfl
theorem Vb (a b:Int):jX .sub (ι a) (ι b)=some (ι (IntKind.i64.wrap (a-b))):=W_ rfl rfl
theorem Q6 (a b:Int):jX .mul (ι a) (ι b)=some (ι (IntKind.i64.wrap (a*b))):=W_ rfl rfl
theorem NK (k:IntKind)(a b:Int):jX .lss (.aD k a) (.aD k b)=some (.aE (decide (a<b))):=by simp[jX,qD]
theorem NJ (k:IntKind)(a b:Int):jX .leq (.aD k a) (.aD k b)=some (.aE (decide (a<=b))):=by simp[jX,qD]
theorem NI (k:IntKind)(a b:Int):jX .gtr (.aD k a) (.aD k b)=some (.aE (decide (b<a))):=by simp[jX,qD]
theorem NH (k:IntKind)(a b:Int):jX .geq (.aD k a) (.aD k b)=some (.aE (decide (b<=a))):=by simp[jX,qD]
theorem NG (k:IntKind)(a b:Int):jX .eql (.aD k a) (.aD k b)=some (.aE (decide (a=b))):=by simp[jX,qD];rfl
theorem NL (k:IntKind)(a b:Int):jX .neq (.aD k a) (.aD k b)=some (.aE (!decide (a=b))):=by simp[jX,qD,bne];rfl
theorem gF {x:Int}(h:-9223372036854775808<=x/\x<=9223372036854775807):IntKind.i64.wrap x=x:=by simp only[IntKind.wrap,IntKind.bits,IntKind.signed];simp;split<;>omega
theorem ES (n:Nat)(cs:List AV):qM true n cs=if n<=cs.length then some (.aF (cs.take n)) else none:=W_ rfl rfl
theorem zN (n:Nat)(c:AV)(cs:List AV):qM false n (c :: cs)=some c:=W_ rfl rfl
theorem Tj (st:St):mh st []=some []:=W_ rfl rfl
theorem Tl (st:St)(x:fN)(r:List kU):mh st (.aC x :: r)=(mh st r).map (st.aA x :: ·):=W_ rfl rfl
theorem Rs (x:AV):qH [x]=x:=W_ rfl rfl
theorem Rr:qH []=.aI []:=W_ rfl rfl
theorem Rt (x y:AV)(l:List AV):qH (x :: y :: l)=.aI (x :: y :: l):=W_ rfl rfl
theorem Nt (k:IntKind)(n:Int):(AV.aD k n).aK=some [.aD k n]:=W_ rfl rfl
theorem Ns (b:Bool):(AV.aE b).aK=some [.aE b]:=W_ rfl rfl
theorem Nx (s:ByteArray):(AV.aQ s).aK=some [.aQ s]:=W_ rfl rfl
theorem Nu:AV.aC.aK=some [.aC]:=W_ rfl rfl
theorem No (cs:List AV):(AV.aF cs).aK=some cs:=W_ rfl rfl
theorem Nw (n sz off len:Nat)(cap:Option Nat):(AV.aG n sz off len cap).aK=some [.aG n sz off len cap]:=W_ rfl rfl
theorem Ny (t:Nat)(c:Bool)(sz:Nat)(es:List (List AV)):(AV.aM t c sz es).aK=some [.aM t c sz es]:=W_ rfl rfl
theorem Nv (n sz i o:Nat):(AV.aA n sz i o).aK=some [.aA n sz i o]:=W_ rfl rfl
theorem gV {a:AV}(h:a.aH=true):a.aK=some [a]:=by cases a<;>first | rfl | simp_all[AV.aK,AV.aH]
theorem UF (k:IntKind)(n:Int):(AV.aD k n).aH=true:=W_ rfl rfl
theorem UE (b:Bool):(AV.aE b).aH=true:=W_ rfl rfl
theorem UJ (s:ByteArray):(AV.aQ s).aH=true:=W_ rfl rfl
theorem UG:AV.aC.aH=true:=W_ rfl rfl
theorem UI (n sz off len:Nat)(cap:Option Nat):(AV.aG n sz off len cap).aH=true:=W_ rfl rfl
theorem UK (t:Nat)(c:Bool)(sz:Nat)(es:List (List AV)):(AV.aM t c sz es).aH=true:=W_ rfl rfl
theorem UH (n sz i o:Nat):(AV.aA n sz i o).aH=true:=W_ rfl rfl
theorem Ln (cs:List AV):pQ cs []=some cs:=W_ rfl rfl
theorem Lm (cs:List AV)(o n:Nat)(x:AV)(r:List (Nat×Nat×AV)):
  pQ cs ((o,n,x) :: r)=x.aK.bind λl=>if l.length=n/\o+n<=cs.length then pQ (kJ cs o l) r else none:=by
 simp only[pQ];generalize x.aK=q;cases q<;>rfl
theorem UP (cs:List AV)(o:Nat):kJ cs o []=cs:=W_ rfl rfl
theorem UO (cs:List AV)(o:Nat)(c:AV)(r:List AV):kJ cs o (c :: r)=kJ (cs.set o c) (o+1) r:=W_ rfl rfl
theorem Tr (g:fN->AV)(h:fu)(z:List AV)(ps:List (Nat×Nat×fN)):gM g h (.aJ z ps)=(pQ z (ps.map λp=>(p.1,p.2.1,g p.2.2))).map .aF:=W_ rfl rfl
theorem Ni (sz:Nat):nu sz []=some []:=W_ rfl rfl
theorem Nh (sz:Nat)(x:AV)(r:List AV):
  nu sz (x :: r)=x.aK.bind λcs=>(nu sz r).bind λes=>if cs.length=sz/\cs.all AV.aH=true then some (cs :: es) else none:=by
 simp only[nu];cases x.aK<;>cases nu sz r<;>rfl
theorem QD (g:fN->AV)(nm:Nat)(cs:List AV):jT g nm (.mk cs)=some (.aA nm cs.length 0 0,.aA cs.length [cs] false):=W_ rfl rfl
theorem QB (g:fN->AV)(nm:Nat)(x:fN):
  jT g nm (.aD x)=(g x).aK.bind λcs=>if cs.all AV.aH=true then some (.aA nm cs.length 0 0,.aA cs.length [cs] false) else none:=by
 simp only[jT];cases (g x).aK<;>rfl
theorem QC (g:fN->AV)(nm sz:Nat)(xs:List fN):
  jT g nm (.aA sz xs)=(nu sz (xs.map g)).map λes=>(.aG nm sz 0 xs.length (some xs.length),.aA sz es false):=by
 simp only[jT];cases nu sz (xs.map g)<;>rfl
theorem Pl (g:fN->AV)(h:fu)(cs:List AV):kP g h (.mk cs)=some (.aA h.length cs.length 0 0,h++[some (.aA cs.length [cs] false)]):=W_ rfl rfl
theorem Ph (g:fN->AV)(h:fu)(x:fN):
  kP g h (.aD x)=(g x).aK.bind λcs=>if cs.all AV.aH=true then some (.aA h.length cs.length 0 0,h++[some (.aA cs.length [cs] false)]) else none:=by
 simp only[kP,jT];generalize (g x).aK=q;cases q with
 | none=>rfl
 | some cs=>simp only[Yx];by_cases e:cs.all AV.aH=true<;>simp[e]
theorem Pj (g:fN->AV)(h:fu)(sz:Nat)(xs:List fN):
  kP g h (.aA sz xs)=(nu sz (xs.map g)).map λes=>(.aG h.length sz 0 xs.length (some xs.length),h++[some (.aA sz es false)]):=by
 simp only[kP,jT];generalize nu sz (xs.map g)=q;cases q<;>rfl
theorem Pm (g:fN->AV)(h:fu)(n:Nat)(a x:fN):kP g h (.aE n a x)=(qy h n (g a) (g x)).map λh'=>(.aR,h'):=W_ rfl rfl
theorem Pf (g:fN->AV)(h:fu)(sz bytes:Nat)(x y:fN):kP g h (.aC sz bytes x y)=pP h sz bytes (g x) (g y):=W_ rfl rfl
theorem iR {h:fu}{sz:Nat}{y:AV}{ys:List (List AV)}(hy:jD h sz y=some ys)(bytes:Nat)(x:AV):pP h sz bytes x y=iL h sz bytes x ys:=by simp only[pP,hy]
theorem mH (h:fu)(sz:Nat)(es:List (List AV))(g:Bool)(cap:Option Nat){len:Nat}(hl:len=es.length):jD (h++[some (.aA sz es g)]) sz (.aG h.length sz 0 len cap)=some es:=by subst hl;simp[jD]
theorem JJ:∀(r a:List AV)(cs:List AV),cs.length=r.length->kJ (a++cs) a.length r=a++r:=by
 intro r;induction r with
 | nil=>intro a cs h;simp at h;subst h;rfl
 | cons c r ih=>
  intro a cs h;cases cs with
  | nil=>simp at h
  | cons d cs=>
   simp only[kJ];have:(a++d :: cs).set a.length c=(a++[c])++cs:=by simp
   rw[this];have:=ih (a++[c]) cs (by simpa using h);simpa using this
theorem yk {h:fu}{n sz j:Nat}{row:List (List AV)}{g:Bool}{cs cs':List AV}{x:AV} (h7:h[n]?=some (some (.aA sz row g))) (h8:row[j]?=some cs)
  (hc:x.aK=some cs') (hl:cs.length=cs'.length) (u:cs'.length=sz) (hs:cs'.all AV.aH=true):
  qy h sz (.aA n sz j 0) x=some (h.set n (some (.aA sz (row.set j cs') g))):=by
 have hj:=(WR.1 h8).1;simp only[qy,h7,hc];rw[WW ⟨Xb,u,ω,hj,hs⟩];have:row.modify j (λx=>kJ x 0 cs')=row.set j cs':=by
  apply XT;intro i;rw[Zb,Yz];by_cases e:j=i;·subst e;have:=JJ cs' [] cs hl;simp only[Yg,Xi]at this;obtain⟨_,rfl⟩:=WR.1 h8;simp[hj,this]
  ·simp[e]
 rw[this]
def Kk (k:IntKind)(a b:Int):Int:=k.wrap (BitVec.ofInt k.bits a ^^^ BitVec.ofInt k.bits b).toNat
theorem Ms (k:IntKind)(a b:Int):jX .xor (.aD k a) (.aD k b)=some (.aD k (Kk k a b)):=by simp[jX,qD,Kk]
def zH (b:Option (Option fC))(sz i:Nat):Option (List AV):=
 match b with
 | some (some (.aA sz' es _))=>if sz=sz' then es[i]? else none
 | _=>none
theorem JD (sz i:Nat)(es:List (List AV))(g:Bool):zH (some (some (.aA sz es g))) sz i=es[i]?:=by simp[zH]
theorem Gl (h:fu)(agg:Bool)(n m sz i o:Nat):iK h agg n (.aA m sz i o)=(zH h[m]? sz i).bind λe=>qM agg n (e.drop o):=by
 simp only[iK,zH];split;·rename_i u es g hm;simp only[hm];split<;>rfl
 ·rename_i hm;split;·rename_i u es g E;exact absurd E (hm _ _ _)
  ·rfl
theorem Lj (o m sz i o':Nat):uy o (.aA m sz i o')=some (.aA m sz i (o'+o)):=W_ rfl rfl
theorem Lf (m sz i o:Nat):F9 (.aA m sz i o)=some (.aA m sz i o):=W_ rfl rfl
def EM (h:fu)(m n sz i o:Nat)(cs:List AV)(b:Option (Option fC)):Option fu:=
 match b with
 | some (some (.aA sz' es g))=>if sz=sz'/\cs.length=n/\o+n<=sz/\i<es.length/\cs.all AV.aH=true then some (h.set m (some (.aA sz (es.modify i (kJ · o cs)) g))) else none
 | _=>none
theorem L7 (h:fu)(n m sz i o:Nat)(x:AV):qy h n (.aA m sz i o) x=x.aK.bind λcs=>EM h m n sz i o cs h[m]?:=by
 simp only[qy];generalize hb:h[m]?=b;generalize hc:x.aK=c;cases c with
 | none=>cases b with
  | none=>rfl
  | some b=>cases b with
   | none=>rfl
   | some b=>cases b<;>rfl
 | some cs=>cases b with
  | none=>rfl
  | some b=>cases b with
   | none=>rfl
   | some b=>cases b<;>rfl
theorem U_ (h:fu)(m n sz i o:Nat)(cs:List AV)(es:List (List AV))(g:Bool):
  EM h m n sz i o cs (some (some (.aA sz es g)))=if cs.length=n/\o+n<=sz/\i<es.length/\cs.all AV.aH=true then some (h.set m (some (.aA sz (es.modify i (kJ · o cs)) g))) else none:=by
 simp[EM]
theorem QW (e:List AV)(f:List AV->List AV):[e].modify 0 f=[f e]:=W_ rfl rfl
theorem h_ (h:fu)(x:Option fC):(h++[x])[h.length]?=some x:=by rw[show h++[x]=h++[x] by simp,show h.length=h.length+0 from rfl,XA (Yy _ _),Zd];rfl
theorem kr (h:fu)(x y:Option fC):(h++[x]++[y])[h.length]?=some x:=by rw[show h++[x]++[y]=h++[x,y] by simp,show h.length=h.length+0 from rfl,XA (Yy _ _),Zd];rfl
theorem jy (h:fu)(x y:Option fC):(h++[x]++[y])[h.length+1]?=some y:=by rw[show h++[x]++[y]=h++[x,y] by simp,show h.length+1=h.length+1 from rfl,XA (Yy _ _),Zd];rfl
theorem qB (h:fu)(x y z:Option fC):(h++[x]++[y]++[z])[h.length]?=some x:=by rw[show h++[x]++[y]++[z]=h++[x,y,z] by simp,show h.length=h.length+0 from rfl,XA (Yy _ _),Zd];rfl
theorem rB (h:fu)(x y z:Option fC):(h++[x]++[y]++[z])[h.length+1]?=some y:=by rw[show h++[x]++[y]++[z]=h++[x,y,z] by simp,show h.length+1=h.length+1 from rfl,XA (Yy _ _),Zd];rfl
theorem uD (h:fu)(x y z:Option fC):(h++[x]++[y]++[z])[h.length+1+1]?=some z:=by rw[show h++[x]++[y]++[z]=h++[x,y,z] by simp,show h.length+1+1=h.length+2 from rfl,XA (Yy _ _),Zd];rfl
theorem MA (h:fu)(x:Option fC):(h++[x])[h.length]?=some x:=by simp
theorem zk (h:fu)(x:Option fC):(h++[x]).length=h.length+1:=by simp
theorem Ti (st:St)(x:fN)(agg:Bool)(n:Nat)(r:List kU):mh st (.aA x agg n :: r)=(iK st.h agg n (st.aA x)).bind λv=>(mh st r).map (v :: ·):=by simp only[mh];cases iK st.h agg n (st.aA x)<;>cases mh st r<;>rfl
theorem fq.b1 {h:fu}(x:Option fC):fq fB h (h++[x]):=fq.aF _ _ _
theorem fq.b2 {h:fu}(x y:Option fC):fq fB h (h++[x]++[y]):=(fq.aF fB h [x]).tr (fq.aF _ _ _)
theorem fq.b3 {h:fu}(x y z:Option fC):fq fB h (h++[x]++[y]++[z]):=(fq.b2 x y).tr (fq.aF _ _ _)
theorem fq.b4 {h:fu}(x y z u:Option fC):fq fB h (h++[x]++[y]++[z]++[u]):=(fq.b3 x y z).tr (fq.aF _ _ _)
theorem fq.aM {h h':fu}(e:fq fB h h')(x:Option fC):fq fB h (h'++[x]):=e.tr (fq.aF _ _ _)
theorem Rd.aA {F h}:∀{d:D}{a:AV},Rd F h d a->a.aH=true:=by
 intro d a hh;cases d with
 | aA k n=>simp only[Rd]at hh;subst hh;rfl
 | aE b=>simp only[Rd]at hh;subst hh;rfl
 | aF s=>simp only[Rd]at hh;subst hh;rfl
 | sl sz ds=>simp only[Rd]at hh;obtain⟨es,(⟨rfl,_⟩ | ⟨t,c,rfl⟩ | ⟨n,off,len,cap,row,g,rfl,_⟩),_⟩:=hh<;>rfl
theorem Te (x:Option fC):List.replicate 1 x=[x]:=W_ rfl rfl
theorem Tf (h:fu)(x:Option fC):h++List.replicate 2 x=h++[x]++[x]:=by simp[List.replicate]
theorem Tg (h:fu)(x:Option fC):h++List.replicate 3 x=h++[x]++[x]++[x]:=by simp[List.replicate]
theorem Th (h:fu)(x:Option fC):h++List.replicate 4 x=h++[x]++[x]++[x]++[x]:=by simp[List.replicate]
theorem QL (dep:Nat->Nat->Bool)(i j n:Nat)(b:fC):mF dep i [(j,n,b)]=if dep i j=true then [] else [(j,n,b)]:=by simp only[mF,List.filter_cons,List.filter_nil];cases dep i j<;>rfl
theorem kj (dep:Nat->Nat->Bool)(i j n:Nat)(b:fC)(r:List (Nat×Nat×fC)):mF dep i ((j,n,b) :: r)=if dep i j=true then mF dep i r else (j,n,b) :: mF dep i r:=by simp only[mF,List.filter_cons];cases dep i j<;>rfl
theorem QN (masks:List Nat)(i j:Nat):D7 masks i j=decide (masks.getD i 0 / 2^j % 2=1):=by simp only[D7,Nat.testBit_eq_decide_div_mod_eq]
theorem OH (dep:Nat->Nat->Bool)(lo i:Nat)(l:List (Nat×Nat×fC))(h:fu):
  nv dep lo 1 i l h=((l.any λx=>dep i x.1 && x.2.1 == lo) || nU h[lo]?):=by simp[nv]
theorem DE (dep:Nat->Nat->Bool)(lo i:Nat)(l:List (Nat×Nat×fC))(h:fu):
  nv dep lo 2 i l h=(((l.any λx=>dep i x.1 && x.2.1 == lo) || nU h[lo]?) && ((l.any λx=>dep i x.1 && x.2.1 == lo+1) || nU h[lo+1]?)):=by
 simp[nv,List.range_succ]
theorem OJ (dep:Nat->Nat->Bool)(lo i:Nat)(l:List (Nat×Nat×fC))(h:fu):nv dep lo 0 i l h=true:=by simp[nv]
theorem PC:nU (some none)=true:=W_ rfl rfl
theorem tJ {h h':fu}{p:AV}{cs:List AV}(hp:jV h p=some cs)(e:fq fB h h'):jV h' p=some cs:=by
 cases p with
 | aA m sz i o=>exact RQ (F:=λ_=>True) (e.aE _) Xb hp
 | aO t cs'=>exact hp
 | _=>simp[jV]at hp
theorem IQ {h:fu}{p:AV}{cs:List AV}(hp:jV h p=some cs)(k o:Nat):ij h.length k (py o p)=true:=by
 cases p with
 | aA m sz i o'=>
  simp only[jV]at hp;split at hp;·rename_i hm;have:=(WR.1 hm).1;simp[py,ij,this]
  ·cases hp
 | aO t cs'=>rfl
 | _=>simp[jV]at hp
theorem IS {h:fu}{p:AV}{cs:List AV}(hp:jV h p=some cs)(k:Nat):ij h.length k p=true:=by have:=IQ hp k 0;cases p<;>simp_all[py,ij]
theorem uw {h:fu}{m sz:Nat}{es:List (List AV)}{g:Bool} (hb:h[m]?=some (some (.aA sz es g))) (cap:Option Nat) {len:Nat} (hl:len=es.length):jD h sz (.aG m sz 0 len cap)=some es:=by subst hl;simp[jD,hb]
theorem fq.aJ {F:Nat->Prop}{h h1 h2:fu}(e:fq fB h h1)(e':fq F h1 h2)(hF:∀m,m<h.length->¬F m):fq fB h h2:=e.aD e' (λ_ _ x=>x) (λm hm u=>hF m hm u)
theorem RB {F F':Nat->Prop}{h h':fu}{k:IntKind}:∀{l:List Int} {ys:List (List AV)},gB F h (l.map λn=>[.aA k n]) ys->fQ (l.map λn=>[.aA k n]) F' h' ys:=by
 intro l;induction l with
 | nil=>intro ys hh;exact hh
 | cons n l ih=>intro ys hh;simp only[XD,gB,fH,Rd]at hh;obtain⟨_,r,rfl,⟨_,_,rfl,rfl,rfl⟩,h2⟩:=hh;simp only[XD,fQ,fU,fA];exact⟨_,_,rfl,⟨_,_,rfl,rfl,rfl⟩,ih h2⟩
theorem fq.aI {h h2:fu}{n:Nat}(e:fq fB h h2)(hn:h.length<=n)(x:Option fC):fq fB h (h2.set n x):=
 e.aD (fq.aH (F:=λm=>h.length<=m) x (λ_=>hn)) (λ_ _ x=>x) (λm hm hm'=>ω)
theorem Rd.up {F h h' d a}(hh:Rd F h d a)(e:fq fB h h'):Rd F h' d a:=Rd.aE (λ_ x=>x) (e.aE F) _ _ hh
theorem fH.up {F h h' d a}(hh:fH F h d a)(e:fq fB h h'):fH F h' d a:=fH.aA (λ_ x=>x) (e.aE F) _ _ hh
theorem fA.up {F h h'}{d:D}{a}(hh:fA d F h a)(e:fq fB h h'):fA d F h' a:=fA.aC d (λ_ x=>x) (e.aE F) _ hh
theorem fA.aA {F h}{d:D}{a:AV}(hh:fA d F h a):a.aH=true:=(fA.rd d (F':=F) (λ_ x=>x) a hh).aA
def wE (a b:Nat):Prop:=a<b
theorem Pp (n m:Nat):wE n (m+1)=(n=m\/wE n m):=by unfold wE;exact propext ⟨λ_=>ω,λ_=>ω⟩
theorem OY {H j:fu}{n:Nat}(e:wE n H.length):(H++j)[n]?=H[n]?:=Xy e
theorem OW {H:fu}{x:Option fC}{n:Nat}(e:n=H.length):(H++[x])[n]?=some x:=by subst e;simp
theorem UR {H j:fu}{y:Option fC}{n:Nat}(e:wE n H.length):(H++j).set n y=H.set n y++j:=List.set_append_left _ _ e
theorem UQ {H:fu}{x y:Option fC}{n:Nat}(e:n=H.length):(H++[x]).set n y=H++[y]:=by subst e;simp
attribute [go_sem] List.replicate_zero Yd XD Yb YG Yg Wi Wg We Wf Wh Wb Wc Wd Ik P5 P6 PG PF PH Ij PT PR PQ PS Kd Wa V_ V7 V8 V9 Rk Ri PX PW PY PU Ii PV OX OZ OV QH iw fE WC Wz WB WA WD Si Sh Sj Wt Ws Wr Md Mc PM Ou Ot VV VT VZ VD VG VC VB VW VX VU VI V0 VY VN VJ VO V4 VR VH V5 VQ VP VM VE VF VK Rj PO PN PL Rf NW NX NV Vz Ls Lr Wx Wu Ww Wv Wy TA Jx L3 Rv Rw Ru Tz Tq Tx TD Tw TF LK TC LH Tu Li Tp Lb Lc Ts Tt Ga TB LF Lh Vb Q6 NK NJ NI NH NG NL zN Tj Tl Rs Rr Rt Nt Ns Nx Nu No Nw Ny Nv UF UE UJ UG UI UK UH Ln Lm UP UO Tr Ni Nh QD QB QC Pl Ph Pj Pm Pf Ms JD Gl Lj Lf L7 U_ QW h_ kr jy qB rB uD zk Ti Yz Nat.left_eq_add Nat.zero_lt_one Nat.lt_add_one Nat.add_eq_left Nat.add_left_cancel_iff Nat.add_right_cancel_iff Te Tf Tg Th QL QN OH DE PC QK Pn U0 PK Y8 List.getD_cons_zero List.getD_cons_succ List.any_nil List.any_cons Bool.false_or Bool.or_false ZI Bool.and_true ZE beq_self_eq_true true_or or_true OJ ES List.drop_succ_cons Yt Zo List.take_zero Xf Xi List.set_cons_zero List.set_cons_succ Xx Yh Yx and_true true_and and_self Yc List.all_cons List.all_nil Bool.and_true ZJ Xt XS XL X_ Zj Pp OY OW UR UQ pf ou List.contains_cons List.contains_nil Nat.reduceBEq ZD
inductive Ty where
 | aA (k:IntKind)
 | aC
 | aD
 | sl (sz:Nat) (ts:List Ty)
mutual
def KR:D->Ty->Prop
 | .aA k _,t=>t=.aA k
 | .aE _,t=>t=.aC
 | .aF _,t=>t=.aD
 | .sl sz ds,t=>∃ts,t=.sl sz ts/\ds.length<=2^40/\FC ds ts
def FB:List D->List Ty->Prop
 | [],ts=>ts=[]
 | d :: ds,l=>∃t ts,l=t :: ts/\KR d t/\FB ds ts
def FC:List (List D)->List Ty->Prop
 | [],_=>True
 | e :: ds,ts=>FB e ts/\FC ds ts
end
section
variable {h:fu} {n sz i:Nat} {row:List (List AV)} {g:Bool} {cs cs':List AV}
end
def WQ:AV->Nat
 | .aG _ _ _ len _=>len
 | _=>0
mutual
def D.av:D->AV
 | .aA k n=>.aD k n
 | .aE b=>.aE b
 | .aF s=>.aQ s
 | .sl sz es=>.aM 0 false sz (D.aD es)
def D.aC:List D->List AV
 | []=>[]
 | d :: r=>D.av d :: D.aC r
def D.aD:List (List D)->List (List AV)
 | []=>[]
 | e :: r=>D.aC e :: D.aD r
end
theorem sR:∀l:List D,D.aC l=l.map D.av
 | []=>rfl
 | d :: r=>by simp only[D.aC,XD,sR r]
theorem uA:∀l:List (List D),D.aD l=l.map D.aC
 | []=>rfl
 | d :: r=>by simp only[D.aD,XD,uA r]
theorem mI (d:D):d.av.aH=true:=by cases d<;>simp only[D.av]<;>rfl
mutual
theorem wZ (F:Nat->Prop)(h:fu):∀d:D,Rd F h d d.av
 | .aA k n=>by simp only[Rd,D.av]
 | .aE b=>by simp only[Rd,D.av]
 | .aF s=>by simp only[Rd,D.av]
 | .sl sz es=>by simp only[Rd,D.av];exact⟨_,.inr (.inl ⟨0,false,rfl⟩),Jk F h es⟩
theorem tK (F:Nat->Prop)(h:fu):∀l:List D,fH F h l (D.aC l)
 | []=>by simp only[fH,D.aC]
 | d :: r=>by simp only[fH,D.aC];exact⟨_,_,rfl,wZ F h d,tK F h r⟩
theorem Jk (F:Nat->Prop)(h:fu):∀l:List (List D),gB F h l (D.aD l)
 | []=>by simp only[gB,D.aD]
 | d :: r=>by simp only[gB,D.aD];exact⟨_,_,rfl,tK F h d,Jk F h r⟩
end
def vz (P:Program)(g:TypeId->Option (List Ty)):List Field->Nat->Option (List Ty)
 | [],_=>some []
 | f :: r,o=>match g f.type with
  | some ts=>if f.offset=o/\P.cellsOf f.type=ts.length then (vz P g r (o+ts.length)).map (ts++·) else none
  | none=>none
def pF (P:Program):Nat->TypeId->Option (List Ty)
 | 0,_=>none
 | n+1,t=>
  match P.underlying t with
  | some .bool=>some [.aC]
  | some (.int k)=>some [.aA k]
  | some .string=>some [.aD]
  | some (.slice e)=>match pF P n e with
   | some (x :: ts)=>if P.cellsOf e=(x :: ts).length then some [.sl (P.cellsOf e) (x :: ts)] else none
   | _=>none
  | some (.struct fs)=>match vz P (pF P n) fs.toList 0 with
   | some ts=>if P.cellsOf t=ts.length then some ts else none
   | none=>none
  | _=>none
mutual
def mu:D->Ty->Prop
 | .aA k n,t=>t=.aA k/\(Lit.int k n).wf=true
 | .aE _,t=>t=.aC
 | .aF _,t=>t=.aD
 | .sl sz ds,t=>∃ts,t=.sl sz ts/\tY ds ts
def jF:List D->List Ty->Prop
 | [],ts=>ts=[]
 | d :: ds,l=>∃t ts,l=t :: ts/\mu d t/\jF ds ts
def tY:List (List D)->List Ty->Prop
 | [],_=>True
 | e :: ds,ts=>jF e ts/\tY ds ts
end
theorem Ft:∀{ds:List D}{ts:List Ty},jF ds ts->ds.length=ts.length:=by
 intro ds;induction ds with
 | nil=>intro ts h;simp only[jF]at h;subst h;rfl
 | cons d ds ih=>intro ts h;simp only[jF]at h;obtain⟨t,ts',rfl,_,h⟩:=h;simp[ih h]
theorem KJ:∀{ds u:List D}{ts e:List Ty},jF ds ts->jF u e->jF (ds++u) (ts++e):=by
 intro ds;induction ds with
 | nil=>intro u ts e h h';simp only[jF]at h;subst h;exact h'
 | cons d ds ih=>intro u ts e h h';simp only[jF]at h;obtain⟨t,ts1,rfl,h1,h2⟩:=h;simp only[Zj,jF];exact⟨t,_,rfl,h1,ih h2 h'⟩
theorem KI:∀{ds:List (List D)} {ts:List Ty},(∀d∈ds,jF d ts)->tY ds ts:=by
 intro ds;induction ds with
 | nil=>intro ts _;trivial
 | cons e ds ih=>intro ts h;exact⟨h e ς,ih λd hd=>h d (by simp[hd])⟩
def Gh.aJ (w:World):Gh:={N:=0,aA:=λ_=>none,aE:=λ_=>False,aD:=λ_=>False,aF:=λ_ _=>False,S:=λb=>b<w.heap.size}
theorem fY.bE (w:World):fY (Gh.aJ w) w [] where
 aA:=rfl
 aD n:=⟨λh=>h.elim,λ⟨⟨_,_,_,h⟩,_⟩=>by simp at h⟩
 aE _ _ h:=h.elim
 inj _ _ _ h:=h.elim
 aF _ _ _ h:=h.elim
 aG _ _ h:=h.elim
 aL _ _ _ h:=h.elim
 aM _ _ h:=h.elim
 aH _ _ h:=h.elim
 aJ _ h:=h
 aC _ _ _ _ _ h:=by simp at h
 aI _ _ _ _ h:=by simp at h
 aK _ h:=h.elim
theorem Nf {w:World}{a:Addr}{v:Value}(h:w.cell? a=some v):a.block<w.heap.size:=by
 simp only[World.cell?]at h;split at h;·rename_i hh;exact (Yw.1 hh).1
 ·cases h
theorem Ng {w:World}{a:Addr}{v:Value}(h:w.cell? a=some v):a.spot=none:=by
 simp only[World.cell?]at h;split at h
 ·split at h;·cases h
  ·rename_i hs;simpa using hs
 ·cases h
section
variable {H:Type} {enc:TypeId×Value->H} {P:Program} {w:World} {held:Bool}
theorem yK {a:Addr}{n:Nat}{cs:List Value}(h:w.cells? 0 a n=some cs):cs.length=n/\∀j,j<n->w.cell? (a.add j)=cs[j]?:=by simp only[World.cells?,Xm,Yc]at h;have hl:=mapM_some_length h;refine⟨by simpa using hl,λj hj=>?_⟩;exact mapM_some_get h j j (by simp[hj])
theorem Vo:∀(fuel n:Nat)(t:TypeId)(cs:List Value)(x:DataW H×List MemPlace)(ts:List Ty),DataW.trod enc P w 0 (λ_=>true) held fuel t cs=some x->pF P n t=some ts->
  ∃ds:List D,jF ds ts/\ds.length=cs.length/\∀(j:Nat)(d:D)(v:Value),ds[j]?=some d->cs[j]?=some v->V (Gh.aJ w) w d.av v:=by
 intro fuel;induction fuel with
 | zero=>intro n t cs x ts h _;simp[DataW.trod]at h
 | succ m ih=>
  intro n t cs x ts h ht;cases n with
  | zero=>simp[pF]at ht
  | succ n=>
   simp only[pF]at ht;split at ht;·rename_i hu;cases ht;unfold DataW.trod at h;rw[hu]at h;split at h<;>simp_all;rename_i b;refine⟨[.aE b],by simp[jF,mu],rfl,λj d v hd hv=>?_⟩;cases j<;>simp at hd hv;subst hd hv;simp only[D.av];exact .aF b
   ·rename_i k hu;cases ht;unfold DataW.trod at h;rw[hu]at h;split at h<;>simp_all;rename_i z heq;obtain⟨⟨hk,hw⟩,_⟩:=h;subst heq;subst hk;refine⟨[.aA _ z],by simp only[jF,mu];exact⟨_,_,rfl,⟨rfl,hw⟩,rfl⟩,rfl,λj d v hd hv=>?_⟩;cases j<;>simp at hd hv;subst hd hv;simp only[D.av];exact .aC _ _
   ·rename_i hu;cases ht;unfold DataW.trod at h;rw[hu]at h;split at h<;>simp_all;rename_i s;refine⟨[.aF s],by simp[jF,mu],rfl,λj d v hd hv=>?_⟩;cases j<;>simp at hd hv;subst hd hv;simp only[D.av];exact .aQ s
   ·rename_i e hu;split at ht
    ·rename_i x0 ts0 hte;split at ht
     ·rename_i hsz;cases ht;rcases DataW.trod_slice hu h with⟨rfl,_⟩ | ⟨a,len,cap,elems,rest,n',hfe,rfl,_,_,hlc,_,hel,hget,hrest,_⟩;·refine⟨[.sl (P.cellsOf e) []],by simp only[jF,mu];exact⟨_,_,rfl,⟨_,rfl,Xb⟩,rfl⟩,rfl,λj d v hd hv=>?_⟩;cases j<;>simp at hd hv;subst hd hv;simp only[D.av,D.aD];exact .aG _ _ _
      ·have hn':n'=m:=ω;subst hn';generalize hq:P.cellsOf e=q at *;have hq0:0<q:=by rw[hsz];simp
       have one:∀i,i<len->∃ds:List D,jF ds (x0 :: ts0)/\∃cs':List Value,w.cells? 0 (a.add (i*q)) q=some cs'/\ds.length=cs'.length /\
         ∀(j:Nat)(d:D)(v:Value),ds[j]?=some d->cs'[j]?=some v->V (Gh.aJ w) w d.av v:=by
        intro i hi;have:=hget i hi;have he:elems[i]?=some (elems[i]' ω):=by rw[WU]
        rw[he]at this;obtain⟨cs',hcs,htr⟩:=Option.bind_eq_some_iff.1 this;obtain⟨ds,h1,h2,h3⟩:=ih n e cs' _ _ htr hte;exact⟨ds,h1,cs',hcs,h2,h3⟩
       let f:Nat->List D:=λi=>if hi:i<len then Classical.choose (one i hi) else []
       have hf:∀i (hi:i<len),jF (f i) (x0 :: ts0)/\∃cs':List Value,w.cells? 0 (a.add (i*q)) q=some cs'/\(f i).length=cs'.length /\
         ∀(j:Nat)(d:D)(v:Value),(f i)[j]?=some d->cs'[j]?=some v->V (Gh.aJ w) w d.av v:=by
        intro i hi;have:=Classical.choose_spec (one i hi);simp only[f,dif_pos hi];exact this
       have hspot:cap≠0->a.spot=none:=by
        intro hc;have some0:∃cs',w.cells? 0 (a.add (0*q)) q=some cs':=by
         rcases Nat.eq_zero_or_pos len with h0 | h0
         ·obtain⟨hr1,hr2⟩:=hrest rfl;have:=hr2 0 ω;rw[h0,Y7]at this;have he:rest[0]?=some (rest[0]' ω):=by rw[WU]
          rw[he]at this;obtain⟨cs',hcs,_⟩:=Option.bind_eq_some_iff.1 this;exact⟨cs',hcs⟩
         ·obtain⟨_,cs',hcs,_⟩:=hf 0 h0;exact⟨cs',hcs⟩
        obtain⟨cs',hcs⟩:=some0;obtain⟨hl,hg⟩:=yK hcs;have:=hg 0 hq0;rw[WU ω]at this;have:=Ng this;simpa [Addr.add] using this
       have hgc:∀i j c,gI (D.aD ((List.range len).map f)) i j=some c->i<len/\∃d,(f i)[j]?=some d/\c=d.av:=by
        intro i j c hc;simp only[gI,uA,XR,List.map_map]at hc;rcases YQ i len with hi | hi;·rw[List.getElem?_range hi]at hc;simp only[YG,Yx,Function.comp,sR,XR,Xn]at hc;obtain⟨d,h1,h2⟩:=hc;exact⟨hi,d,h1,h2.symm⟩
        ·rw[XP (by simpa using hi)]at hc;simp at hc
       have hcell:∀i j c,gI (D.aD ((List.range len).map f)) i j=some c->∃v,w.cell? ⟨a.block,a.off+(i*q+j),none⟩=some v/\V (Gh.aJ w) w c v:=by
        intro i j c hc;obtain⟨hi,d,hd,rfl⟩:=hgc i j c hc;obtain⟨_,cs',hcs,hl,hV⟩:=hf i hi;obtain⟨hl',hg⟩:=yK hcs;have hj:j<q:=by have:=(WR.1 hd).1;omega
        have hcj:cs'[j]?=some (cs'[j]' ω):=by rw[WU]
        have hv:=hg j hj;rw[hcj]at hv;have hs:=hspot ω;rw[vY (a:=a.add (i*q)) (by rw[vY hs]),vY hs]at hv;refine⟨_,?_,hV j d _ hd hcj⟩;rw[<-hv];simp[YW]
       refine⟨[.sl q ((List.range len).map f)],?_,rfl,λj d v hd hv=>?_⟩;·simp only[jF,mu];refine⟨_,_,rfl,⟨_,rfl,KI λd hd=>?_⟩,rfl⟩;obtain⟨i,hi,rfl⟩:=XO.1 hd;exact (hf i (by simpa using hi)).1
       ·cases j<;>simp at hd hv;subst hd hv;simp only[D.av];have hlen:(D.aD ((List.range len).map f)).length=len:=by simp[uA]
        have:=V.aE (G:=Gh.aJ w) (w:=w) 0 false q (D.aD ((List.range len).map f)) a cap
         (λi j=>(w.cell? ⟨a.block,a.off+(i*q+j),none⟩).getD undef) ω ς hspot ?_ ?_ ?_ ?_
        ·rw[hlen]at this;exact this
        ·intro hne;have h0:0<len:=by
          rcases Nat.eq_zero_or_pos len with h0 | h0;·exact absurd (W5 ω) hne
          ·exact h0
         obtain⟨_,cs',hcs,hl,hV⟩:=hf 0 h0;obtain⟨hl',hg⟩:=yK hcs;have:=hg 0 hq0;rw[WU ω]at this;have:=Nf this;simpa [Addr.add,Gh.aL,Gh.aJ] using this
        ·intro e' he';rw[uA]at he';simp only[List.map_map,XO]at he';obtain⟨i,hi,rfl⟩:=he';have hi':i<len:=by simpa using hi
         obtain⟨h1,cs',hcs,hl,_⟩:=hf i hi';obtain⟨hl',_⟩:=yK hcs;simp only[Function.comp,sR];refine⟨by simp;omega,?_⟩;rw[YH];intro z hz;obtain⟨d,_,rfl⟩:=XO.1 hz;exact mI d
        ·intro i j c hc;obtain⟨v,hv,_⟩:=hcell i j c hc;simp[hv]
        ·intro i j c hc;obtain⟨v,hv,hV⟩:=hcell i j c hc;simp[hv,hV]
     ·cases ht
    ·cases ht
   ·rename_i fs hu;obtain⟨hts1,hcl⟩:vz P (pF P n) fs.toList 0=some ts/\P.cellsOf t=ts.length:=by
     split at ht
     ·split at ht;·rename_i h1 h2;cases ht;exact⟨h1,h2⟩
      ·cases ht
     ·cases ht
    obtain⟨xs,n',hfe,_,hlen,hxl,hfd⟩:=DataW.trod_struct hu h;have hn':n'=m:=ω;subst hn';have key:∀(k:Nat)(r:List Field)(o:Nat)(ts:List Ty),fs.toList.drop k=r->vz P (pF P n) r o=some ts->o<=cs.length->
      ∃ds:List D,jF ds ts/\o+ds.length<=cs.length/\∀(j:Nat)(d:D)(v:Value),ds[j]?=some d->cs[o+j]?=some v->V (Gh.aJ w) w d.av v:=by
     intro k r;induction r generalizing k with
     | nil=>intro o ts _ hts ho;simp only[vz,W8]at hts;subst hts;exact⟨[],by simp[jF],by simpa using ho,λj d v hd=>by simp at hd⟩
     | cons f r ihr=>
      intro o ts hk hts ho;simp only[vz]at hts;split at hts
      ·rename_i tf htf;split at hts
       ·rename_i hoff;obtain⟨h1,h2⟩:=hoff;simp only[Xn]at hts;obtain⟨tr,htr,rfl⟩:=hts;have hfk:fs[k]?=some f:=by
         have:(fs.toList.drop k)[0]?=some f:=by rw[hk];rfl
         simpa using this
        have hklt:k<fs.size:=(Yw.1 hfk).1;have:=hfd k f hfk;have hxk:xs[k]?=some (xs[k]' ω):=by rw[WU]
        rw[hxk]at this;obtain⟨d1,g1,g2,g3⟩:=ih n f.type _ _ _ this htf;have hd1:=Ft g1;simp only[W7,Xk,h1,h2]at g2;have ho':o+tf.length<=cs.length:=ω;have hk':fs.toList.drop (k+1)=r:=by rw[<-List.drop_drop,hk];rfl
        obtain⟨d2,q1,q2,q3⟩:=ihr (k+1) (o+tf.length) tr hk' htr ho';refine⟨d1++d2,KJ g1 q1,by simp;omega,λj d v hd hv=>?_⟩;rw[Yk]at hd;split at hd;·rename_i hj;refine g3 j d v hd ?_;rw[XV (by rw[h2];omega),Xv,h1];exact hv
        ·rename_i hj;refine q3 (j-d1.length) d v hd ?_;rw[show o+tf.length+(j-d1.length)=o+j by omega];exact hv
       ·cases hts
      ·cases hts
    obtain⟨ds,g1,g2,g3⟩:=key 0 fs.toList 0 ts rfl hts1 (Xm _);exact⟨ds,g1,by rw[Ft g1,<-hcl,hlen],λj d v hd hv=>g3 j d v hd (by rw[Y7];exact hv)⟩
   ·cases ht
def uS (P:Program)(t:TypeId):Bool:=
 match P.underlying t with
 | some (.struct _)=>true
 | _=>false
def vw (P:Program)(n:Nat):List TypeId->Option (List (Bool×List Ty))
 | []=>some []
 | t :: r=>match pF P n t,vw P n r with
  | some ts,some l=>some ((uS P t,ts) :: l)
  | _,_=>none
def Gs (b:Bool)(ds:List D):AV:=if b then .aF (D.aC ds) else match ds with
 | [d]=>d.av
 | _=>.aR
def pI:List (List D)->List (Bool×List Ty)->Prop
 | [],l=>l=[]
 | d :: ds,l=>∃s r,l=s :: r/\jF d s.2/\pI ds r
def yj:List (List D)->List (Bool×List Ty)->List AV
 | d :: ds,s :: r=>Gs s.1 d :: yj ds r
 | _,_=>[]
theorem Rp {r:Reach}{b0:Nat}{t:TypeId}{v:Value}(hs:uS P t=true)(hv:Value.okWide P w r b0 t v):∃cs,v=.agg cs:=by
 unfold uS at hs;unfold Value.okWide at hv;split at hs;·rename_i fs hu;rw[hu]at hv;obtain⟨cs,rfl,_⟩:=hv;exact⟨cs,rfl⟩
 ·cases hs
theorem Ro {r:Reach}{b0:Nat}{t:TypeId}{v:Value}{n:Nat}{ts:List Ty}(ht:pF P n t=some ts)(hs:uS P t=false)(hv:Value.okWide P w r b0 t v):v.cells=#[v]:=by
 unfold uS at hs;cases n with
 | zero=>simp[pF]at ht
 | succ n=>
  simp only[pF]at ht;unfold Value.okWide Cell.okWide Cell.ok at hv;split at ht;·rename_i hu;rw[hu]at hv;simp only at hv;split at hv<;>simp_all[Value.cells]
  ·rename_i k hu;rw[hu]at hv;simp only at hv;split at hv<;>simp_all[Value.cells]
  ·rename_i hu;rw[hu]at hv;simp only at hv;split at hv<;>simp_all[Value.cells]
  ·rename_i e hu;rw[hu]at hv;simp only at hv;split at hv<;>simp_all[Value.cells]
  ·rename_i fs hu;rw[hu]at hs;cases hs
  ·cases ht
theorem LU {r:Reach}{b0 n:Nat}:∀(tts:List TypeId)(vs:List Value) (ds:List (DataW H)) (ps:List MemPlace) (sh:List (Bool×List Ty)),
  DataW.TrodAll enc P w 0 (λ_=>true) held tts vs ds ps->(∀(j:Nat)(t:TypeId)(v:Value),tts[j]?=some t->vs[j]?=some v->Value.okWide P w r b0 t v)->vw P n tts=some sh->
  ∃dss,pI dss sh/\VL (Gh.aJ w) w (yj dss sh) vs.toArray:=by
 intro tts;induction tts with
 | nil=>
  intro vs ds ps sh h _ hs;simp only[vw,W8]at hs;subst hs;cases vs with
  | nil=>exact⟨[],rfl,VL.aG _ _⟩
  | cons v vs=>cases ds<;>simp[DataW.TrodAll]at h
 | cons t tts ih=>
  intro vs ds ps sh h hok hs;simp only[vw]at hs;split at hs
  ·rename_i ts l ht hl;cases hs;cases vs with
   | nil=>cases ds<;>simp[DataW.TrodAll]at h
   | cons v vs=>
    cases ds with
    | nil=>simp[DataW.TrodAll]at h
    | cons d ds=>
     obtain⟨p,q,⟨fuel,hd⟩,hrest,_⟩:=h;obtain⟨dss,h1,h2⟩:=ih vs ds q l hrest (λj t v a b=>hok (j+1) t v (by simpa using a) (by simpa using b)) hl;obtain⟨d1,g1,g2,g3⟩:=Vo fuel n t _ _ ts hd ht;refine⟨d1 :: dss,⟨_,_,rfl,g1,h1⟩,?_⟩;refine VL.aF ?_ h2;simp only[Gs];cases hst:uS P t with
     | true=>
      obtain⟨cs,rfl⟩:=Rp hst (hok 0 t v rfl rfl);simp only[Yc];simp only[Value.cells,Array.length_toList]at g2 g3;refine .aJ _ _ (by rw[sR];simpa using g2) (λj c v hc hv=>?_);rw[sR,XR]at hc;cases hj:d1[j]? with
      | none=>rw[hj]at hc;cases hc
      | some x=>rw[hj]at hc;simp only[YG,W8]at hc;subst hc;exact g3 j x v hj (by simpa using hv)
     | false=>
      have hc1:=Ro ht hst (hok 0 t v rfl rfl);rw[hc1]at g2 g3;simp only[Xf,Xi]at g2;match d1,g2 with
      | [x],_=>simp only[Xt,XS];exact g3 0 x v rfl rfl
  ·cases hs
theorem Qj {f:FuncId}{sh:List (Bool×List Ty)}{r:Reach}{b0 n:Nat}{tts:List TypeId}{args:Array Value}{ds:List (DataW H)}{ps:List MemPlace}(hs:vw P n tts=some sh)
  (hlaw:∀dss,pI dss sh->fO P f (yj dss sh) [] λr _=>r=.aE true) (h:DataW.TrodAll enc P w 0 (λ_=>true) held tts args.toList ds ps)
  (hok:∀(j:Nat)(t:TypeId)(v:Value),tts[j]?=some t->args[j]?=some v->Value.okWide P w r b0 t v):
  Calls P f args w λe w'=>e=.returned (.bool true)/\xF w w'/\∀b,b<w.heap.size->w'.heap[b]?=w.heap[b]?:=by
 obtain⟨dss,h1,h2⟩:=LU tts args.toList ds ps sh h (λj t v a b=>hok j t v a (by simpa using b)) hs;refine (hlaw dss h1 (Gh.aJ w) w args (fY.bE w) (by simpa using h2)).mono ?_;rintro e w' ⟨v,q,h'',G',rfl,rfl,_,hV,hst⟩;cases hV;have hno:∀b,¬(Gh.aJ w).aI b:=λb hb=>by rcases hb with⟨n,hn,_⟩ | ⟨n,hn⟩<;>exact hn.elim
 exact⟨rfl,hst.aL hno,λb hb=>hst.aE b hb (hno b)⟩
theorem Vn (hl:laidOutB P=true){W W':World}{sp:Nat->Bool} (hsame:∀b,b<W.heap.size->W'.heap[b]?=W.heap[b]?):∀(tts:List TypeId)(vs:List Value) (ds:List (DataW H)) (ps:List MemPlace),
  (tts.all λt=>P.readableRec t && decide (t<P.types.size))=true->DataW.TrodAll enc P W 0 (λ_=>true) true tts vs ds ps->(∀p∈ps,p.block<W.heap.size)->(∀p∈ps,sp p.block=true)->
  DataW.TrodAll enc P W' 0 sp true tts vs ds ps:=by
 intro tts;induction tts with
 | nil=>intro vs ds ps _ h _ _;cases vs<;>cases ds<;>first | exact h | simp[DataW.TrodAll]at h
 | cons t tts ih=>
  intro vs ds ps hall h hlt hsp;simp only[List.all_cons,Xs,XK]at hall;cases vs with
  | nil=>cases ds<;>simp[DataW.TrodAll]at h
  | cons v vs=>
   cases ds with
   | nil=>simp[DataW.TrodAll]at h
   | cons d ds=>
    obtain⟨p,q,h1,h2,rfl⟩:=h;refine⟨p,q,?_,ih vs ds q (by simpa using hall.2) h2 (λx hx=>hlt x (YO _ hx)) (λx hx=>hsp x (YO _ hx)),rfl⟩;refine WideElems.Trod_stays hl hall.1.1 hall.1.2 h1 (λx hx=>?_) (λx hx=>hsp x (Yu _ hx));have:=hsame x.block (hlt x (Yu _ hx));cases x with
    | cell b o=>exact World.cell?_of_block (w:=W) this
    | map b=>exact this
end
end Glb
